/- Walks: magnitudes of small numbers, products, a number by one group. -/
import Derived.Test.YtbfgldlfciimiaaGreatDoorWa3
import Derived.Test.YtbfgldlfciimiaaGreatDoorPl
import Derived.Test.YtbfgldlfciimiaaGreatDoorSxB
import Derived.Below
set_option maxHeartbeats 1000000
namespace Go.Proofs.YtbfgldlfciimiaaGreatDoor
open Go Go.Sx
variable {w0:World} {As:List Ent}
theorem Zc6 {n:Nat} (hn:n≤18446744073709551615):CallsS Tryz.prog w0 220 [.int .u64 (n:Int)] As (MagR As n):=by
 refine Zff ?_
 refine Zab Tryz.func220 rfl Tryz.ntmps220 rfl ?_
 repeat' first|refine Kz ?_|intro _
 refine Tri.loop (ι:=Nat × Value × List Nat) (fun s=>s.1≤n∧s.2.2.length+(mag s.1).length≤(mag n).length∧s.2.2++mag s.1=mag n) (fun s=>s.1)
  (fun s=>[(0,.int .u64 (s.1:Int)),(3,s.2.1)]) (fun s=>.ow (cN .u32) 256 s.2.1 s.2.2::As) (n,.slice none 0 0,[]) ⟨Nat.le_refl _,by simp,rfl⟩ Zad (Za3 _) ?_
 rintro ⟨k,sv,xs⟩ ⟨hk,hl,hx⟩
 simp only at hk hl hx
 have hml:(mag n).length≤3:=Zdo (by omega)
 show Tri _ _ _ _ [(0,.int .u64 (k:Int)),(3,sv)] (.ow (cN .u32) 256 sv xs::As) _
 repeat' first|refine Kz ?_|intro _
 (refine Kx (fun hc=>?_) fun hc=>?_)
 ·have hk0:k≠0:=by omega
  rw [Zeu hk0] at hx hl
  repeat' first|refine Kz ?_|intro _
  rename_i v9
  exact Post.round (k / 1000000000,v9,xs++[k % 1000000000]) ⟨by simp only;omega,by simp at hl ⊢;omega,by simpa using hx⟩ (by simp only;omega) Zad (Ents.refl _)
 ·have hk0:k=0:=by omega
  subst hk0
  rw [Zaz,List.append_nil] at hx
  subst hx
  repeat' first|refine Kz ?_|intro _
  (refine Zac ?_)
  exact ⟨_,rfl,Ents.trans Ents.freeze Zaa⟩
theorem Ziy {v:Value} {a:Nat} [hf:RdIn As v Nat (cN .u32) (mag a)] (ha:(mag a).length≤2):CQ Tryz.prog w0 219 [v] As (.int .u64 (a:Int)):=by
 refine Zab Tryz.func219 rfl Tryz.ntmps219 rfl ?_
 repeat' first|refine Kz ?_|intro _
 refine Tri.loop (ι:=Nat) (fun j=>j≤(mag a).length) (fun j=>j)
  (fun j=>[(0,v),(3,.int .u64 ((a / 1000000000 ^ j:Nat):Int)),(4,.int .i64 ((j:Int) - 1))]) (fun _=>As) (mag a).length (Nat.le_refl _) (by rw [Nat.div_eq_of_lt (Zai a)];(exact Zad)) Zaa ?_
 intro j hj
 cases j with
 | zero =>
  rw [show ((0:Nat):Int) - 1=-1 from rfl]
  repeat' first|refine Kz ?_|intro _
  (refine Zac ?_)
  exact ⟨_,⟨by simp,rfl⟩,Zaa⟩
 | succ j =>
  rw [show ((j+1:Nat):Int) - 1=(j:Int) by omega]
  obtain ⟨d,hd⟩:∃ d,(mag a)[j]?=some d:=⟨_,List.getElem?_eq_getElem (by omega)⟩
  obtain ⟨k1,k2,k3⟩:=Zb5 hd
  have hlt:a < 1000000000 * 1000000000:=Nat.lt_of_lt_of_le (Zai a) (Nat.le_trans (Nat.pow_le_pow_right (by omega) ha) (by decide))
  have hq:a / 1000000000 ^ (j+1) < 1000000000:=by
   rw [Nat.pow_succ,Nat.mul_comm,← Nat.div_div_eq_div_mul]
   exact Nat.lt_of_le_of_lt (Nat.div_le_self _ _) (by omega)
  repeat' first|refine Kz ?_|intro _
  refine Post.round j (by omega) (by omega) ?_ Zaa
  rw [show (((a / 1000000000 ^ j:Nat)):Int)=((a / 1000000000 ^ (j+1):Nat):Int) * 1000000000+(d:Int) by omega]
  (exact Zad)
theorem Zcy {v o:Value} {a b:Nat} [hf:RdIn As v Nat (cN .u32) (mag a)] [hg:RdIn As o Nat (cN .u32) (mag b)] (ha:(mag a).length≤100000000) (hb:(mag b).length≤100000000):CallsS Tryz.prog w0 183 [v,o] As (MagR As (a * b)):=by
 have hsa:=Za2 a
 have hsb:=Za2 b
 have hrl:(List.replicate ((mag a).length+(mag b).length) 0).length=(mag a).length+(mag b).length:=List.length_replicate
 refine Zab Tryz.func183 rfl Tryz.ntmps183 rfl ?_
 repeat' first|refine Kz ?_|intro _
 rename_i sv
 refine Tri.loop (ι:=Nat × List Nat) (fun s=>s.1≤(mag a).length∧s.2.length=(mag a).length+(mag b).length∧(∀ x∈s.2,x < 1000000000)∧valB s.2=valB ((mag a).take s.1) * b) (fun s=>(mag a).length - s.1)
  (fun s=>[(1,o),(5,sv),(17,v),(18,.int .i64 (mag a).length),(19,.int .i64 (s.1:Int))]) (fun s=>.ow (cN .u32) 256 sv s.2::As)
  (0,List.replicate ((mag a).length+(mag b).length) 0) ⟨by omega,hrl,Zda _,by simp [Zb9,valB]⟩ Zad Zaa ?_
 rintro ⟨i,xs⟩ ⟨hi,hxl,hxs,hval⟩
 simp only at hi hxl hxs hval
 show Tri _ _ _ _ [(1,o),(5,sv),(17,v),(18,_),(19,.int .i64 (i:Int))] (.ow (cN .u32) 256 sv xs::As) _
 repeat' first|refine Kz ?_|intro _
 (refine Kx (fun hc=>?_) fun hc=>?_)
 ·obtain ⟨d,hd⟩:∃ d,(mag a)[i]?=some d:=⟨_,List.getElem?_eq_getElem (by omega)⟩
  have hd9:=hsa d (List.mem_of_getElem? hd)
  have hta:=Zaw hd
  have hbp:=Zai b
  have hap:valB ((mag a).take i) < 1000000000 ^ i:=by
   have:=Zdi (xs:=(mag a).take i) fun x hx=>hsa x (List.mem_of_mem_take hx)
   rwa [List.length_take,Nat.min_eq_left (by omega)] at this
  have hxz:xs[i+(mag b).length]?=some 0:=by
   obtain ⟨z,hz⟩:∃ z,xs[i+(mag b).length]?=some z:=⟨_,List.getElem?_eq_getElem (by omega)⟩
   rw [Ziv (n:=i+(mag b).length) (by
    rw [hval,Nat.pow_add]
    rcases Nat.eq_zero_or_pos b with h0|h0
    ·rw [h0,Nat.mul_zero];exact Nat.mul_pos (Nat.pow_pos (by omega)) (Nat.pow_pos (by omega))
    ·exact Nat.lt_of_lt_of_le (Nat.mul_lt_mul_of_pos_right hap h0) (Nat.mul_le_mul_left _ (Nat.le_of_lt hbp))) (Nat.le_refl _) hz] at hz
   exact hz
  repeat' first|refine Kz ?_|intro _
  refine Tri.loop (ι:=Nat × List Nat × Nat) (fun s=>s.1≤(mag b).length∧s.2.1.length=(mag a).length+(mag b).length∧(∀ x∈s.2.1,x < 1000000000)∧s.2.2 < 1000000000∧s.2.1[i+(mag b).length]?=some 0∧valB s.2.1+1000000000 ^ (i+s.1) * s.2.2=valB ((mag a).take i) * b+1000000000 ^ i * d * valB ((mag b).take s.1)) (fun s=>(mag b).length - s.1)
   (fun s=>[(1,o),(5,sv),(6,.int .i64 (i:Int)),(7,.int .u32 (d:Int)),(8,.int .u64 (s.2.2:Int)),(17,v),(18,.int .i64 (mag a).length),(19,.int .i64 (i:Int)),(24,o),(25,.int .i64 (mag b).length),(26,.int .i64 (s.1:Int))]) (fun s=>.ow (cN .u32) 256 sv s.2.1::As)
   (0,xs,0) ⟨by omega,hxl,hxs,by simp only;omega,hxz,by simp [valB,hval]⟩ Zad Zaa ?_
  rintro ⟨j,ys,c⟩ ⟨hj,hyl,hys,hc9,hyz,hyv⟩
  simp only at hj hyl hys hc9 hyz hyv
  show Tri _ _ _ _ [(1,o),(5,sv),(6,.int .i64 (i:Int)),(7,.int .u32 (d:Int)),(8,.int .u64 (c:Int)),(17,v),(18,_),(19,.int .i64 (i:Int)),(24,o),(25,_),(26,.int .i64 (j:Int))] (.ow (cN .u32) 256 sv ys::As) _
  repeat' first|refine Kz ?_|intro _
  (refine Kx (fun hc=>?_) fun hc=>?_)
  ·obtain ⟨ee,he⟩:∃ ee,(mag b)[j]?=some ee:=⟨_,List.getElem?_eq_getElem (by omega)⟩
   have he9:=hsb ee (List.mem_of_getElem? he)
   have htb:=Zaw he
   obtain ⟨p,hp⟩:∃ p,ys[i+j]?=some p:=⟨_,List.getElem?_eq_getElem (by omega)⟩
   have hp9:=hys p (List.mem_of_getElem? hp)
   have hlim:=Zmn hd9 he9 hc9 hp9
   have hij:((i:Int)+(j:Int))=((i+j:Nat):Int):=by omega
   have hde:(d:Int) * (ee:Int)=((d * ee:Nat):Int):=(Int.natCast_mul d ee).symm
   repeat' first|refine Kz ?_|intro _
   refine Post.round (j+1,ys.set (i+j) ((c+(p+d * ee)) % 1000000000),(c+(p+d * ee)) / 1000000000) ⟨by simp only;omega,by simpa using hyl,Zax hys (by omega),by simp only;omega,?_,?_⟩ (by simp only;omega) Zad (Ents.refl _)
   ·simp only
    rw [List.getElem?_set_ne (by omega)]
    exact hyz
   ·simp only
    have h1:=Zoh (Zf0 (g:=(c+(p+d * ee)) % 1000000000) hp) (show c+(p+d * ee)=c+p+d * ee by omega) hyv
    rw [show i+(j+1)=(i+j)+1 by omega,Nat.pow_succ,h1,htb,Nat.mul_add,Nat.pow_add,Nat.add_assoc]
    congr 2
    simp only [Nat.mul_assoc,Nat.mul_left_comm]
  ·have hje:j=(mag b).length:=by omega
   subst hje
   rw [Zak (Nat.le_refl _),Za8] at hyv
   repeat' first|refine Kz ?_|intro _
   refine Post.round (i+1,ys.set (i+(mag b).length) c) ⟨by simp only;omega,by simpa using hyl,Zax hys hc9,?_⟩ (by simp only;omega) Zad Zaa
   simp only
   have h1:=Zf0 (g:=c) hyz
   rw [hta,Nat.add_mul]
   omega
 ·have hie:i=(mag a).length:=by omega
  rw [Zak (by omega),Za8] at hval
  repeat' first|refine Kz ?_|intro _
  refine TL.ents Ents.freeze ?_
  refine TL.call rfl rfl rfl (Zdj hxs (by omega)) ?_
  rintro _ _ ⟨p,cap,rfl,rfl⟩
  rw [hval]
  repeat' first|refine Kz ?_|intro _
  (refine Zac ?_)
  exact ⟨_,⟨p,cap,rfl,rfl⟩,Zaa⟩
def ShortR (As:List Ent) (q r:Nat) (u:Value) (Bs:List Ent):Prop:=∃ p cap,u=.tuple #[.slice p (mag q).length cap,.int .u32 (r:Int)]∧Bs=.ft (rd (cN .u32) (.slice p (mag q).length cap) (mag q))::As
theorem Zi1 {v:Value} {a d:Nat} [hf:RdIn As v Nat (cN .u32) (mag a)] (ha:(mag a).length≤100000000) (hd0:0 < d) (hd9:d < 4294967296):CallsS Tryz.prog w0 235 [v,.int .u32 (d:Int)] As (ShortR As (a / d) (a % d)):=by
 have hsa:=Za2 a
 have hrl:(List.replicate (mag a).length 0).length=(mag a).length:=List.length_replicate
 refine Zab Tryz.func235 rfl Tryz.ntmps235 rfl ?_
 repeat' first|refine Kz ?_|intro _
 rename_i sv
 refine Tri.loop (ι:=Nat × List Nat × Nat) (fun s=>s.1≤(mag a).length∧s.2.1.length=(mag a).length∧(∀ x∈s.2.1,x < 1000000000)∧s.2.2 < d∧valB (s.2.1.drop s.1) * d+s.2.2=valB ((mag a).drop s.1)) (fun s=>s.1)
  (fun s=>[(0,v),(1,.int .u32 (d:Int)),(6,sv),(7,.int .u64 (s.2.2:Int)),(8,.int .i64 ((s.1:Int) - 1))]) (fun s=>.ow (cN .u32) 256 sv s.2.1::As)
  ((mag a).length,List.replicate (mag a).length 0,0) ⟨Nat.le_refl _,hrl,Zda _,hd0,by simp [valB]⟩ Zad Zaa ?_
 rintro ⟨j,xs,r⟩ ⟨hj,hxl,hxs,hr,hval⟩
 simp only at hj hxl hxs hr hval
 cases j with
 | zero =>
  rw [List.drop_zero,List.drop_zero,Za8] at hval
  obtain ⟨e1,e2⟩:=Zfv hval hr
  show Tri _ _ _ _ [(0,v),(1,.int .u32 (d:Int)),(6,sv),(7,.int .u64 (r:Int)),(8,.int .i64 (((0:Nat):Int) - 1))] (.ow (cN .u32) 256 sv xs::As) _
  rw [show ((0:Nat):Int) - 1=-1 from rfl]
  repeat' first|refine Kz ?_|intro _
  refine TL.ents Ents.freeze ?_
  refine TL.call rfl rfl rfl (Zdj hxs (by omega)) ?_
  rintro _ _ ⟨p,cap,rfl,rfl⟩
  repeat' first|refine Kz ?_|intro _
  (refine Zac ?_)
  rw [e1,e2]
  exact ⟨_,⟨p,cap,rfl,rfl⟩,Zaa⟩
 | succ j =>
  obtain ⟨g,hg⟩:∃ g,(mag a)[j]?=some g:=⟨_,List.getElem?_eq_getElem (by omega)⟩
  have hg9:=hsa g (List.mem_of_getElem? hg)
  have hq9:=Zw7 hr hg9
  have hqr:(r * 1000000000+g) % d < d:=Nat.mod_lt _ hd0
  have hset:(xs.set j ((r * 1000000000+g) / d))[j]?=some ((r * 1000000000+g) / d):=by rw [List.getElem?_set,if_pos rfl,if_pos (by omega)]
  have hnew:valB ((xs.set j ((r * 1000000000+g) / d)).drop j) * d+(r * 1000000000+g) % d=valB ((mag a).drop j):=by
   rw [Zdv hset,Zdv hg,List.drop_set_of_lt (by omega)]
   exact Zoj hval rfl
  have hqe:((r:Int) * 1000000000+g) / (d:Int)=(((r * 1000000000+g) / d:Nat):Int):=by rw [Int.natCast_ediv];rfl
  have hqz:0≤((r:Int) * 1000000000+g) / (d:Int)∧((r:Int) * 1000000000+g) / (d:Int) < 1000000000:=by
   rw [hqe];exact ⟨Int.natCast_nonneg _,Int.ofNat_lt.2 hq9⟩
  have hrz:0≤((r:Int) * 1000000000+g) % (d:Int)∧((r:Int) * 1000000000+g) % (d:Int) < d:=⟨Int.emod_nonneg _ (by omega),Int.emod_lt_of_pos _ (by omega)⟩
  show Tri _ _ _ _ [(0,v),(1,.int .u32 (d:Int)),(6,sv),(7,.int .u64 (r:Int)),(8,.int .i64 (((j+1:Nat):Int) - 1))] (.ow (cN .u32) 256 sv xs::As) _
  rw [show ((j+1:Nat):Int) - 1=(j:Int) by omega]
  repeat' first|refine Kz ?_|intro _
  rw [hqe]
  repeat' first|refine Kz ?_|intro _
  exact Post.round (j,xs.set j ((r * 1000000000+g) / d),(r * 1000000000+g) % d) ⟨by simp only;omega,by simpa using hxl,Zax hxs hq9,hqr,hnew⟩ (by simp only;omega) Zad (Ents.refl _)
end Go.Proofs.YtbfgldlfciimiaaGreatDoor
namespace Go.Proofs.YtbfgldlfciimiaaGreatDoor
open Go Go.Sx
variable {w0:World} {As:List Ent}
def RedR (As:List Ent) (vu:Value) (us:List Nat) (lo b:Nat) (r:Value) (Bs:List Ent):Prop:=∃ us':List Nat,r=.int .u32 ((valB (us.drop lo) / b:Nat):Int)∧us'.length=us.length∧(∀ x∈us',x < 1000000000)∧valB (us'.drop lo)=valB (us.drop lo) % b∧us'.take lo=us.take lo∧Bs=.ow (cN .u32) 256 vu us'::As
set_option maxHeartbeats 1000000 in
theorem Zmd {vu v:Value} {us:List Nat} {b lo m:Nat} [hg:RdIn As v Nat (cN .u32) (mag b)] (hn:(mag b).length=m+2) (hl:lo+(mag b).length+1≤us.length) (hul:us.length≤1000000000) (hus:∀ x∈us,x < 1000000000) (hb:500000000 * 1000000000 ^ (m+1)≤b) (hW:valB (us.drop lo) < 1000000000 * b) :
  CallsS Tryz.prog w0 236 [subV 1 vu lo (lo+(mag b).length+1),v] (.ow (cN .u32) 256 vu us::As) (RedR As vu us lo b):=by
 have hsb:=Za2 b
 obtain ⟨u0,hu0⟩:∃ x,us[lo+(mag b).length]?=some x:=⟨_,List.getElem?_eq_getElem (by omega)⟩
 obtain ⟨u1,hu1⟩:∃ x,us[lo+((mag b).length - 1)]?=some x:=⟨_,List.getElem?_eq_getElem (by omega)⟩
 obtain ⟨u2,hu2⟩:∃ x,us[lo+((mag b).length - 2)]?=some x:=⟨_,List.getElem?_eq_getElem (by omega)⟩
 obtain ⟨v1,hv1⟩:∃ x,(mag b)[(mag b).length - 1]?=some x:=⟨_,List.getElem?_eq_getElem (by omega)⟩
 obtain ⟨v2,hv2⟩:∃ x,(mag b)[(mag b).length - 2]?=some x:=⟨_,List.getElem?_eq_getElem (by omega)⟩
 have hu09:=hus _ (List.mem_of_getElem? hu0)
 have hu19:=hus _ (List.mem_of_getElem? hu1)
 have hu29:=hus _ (List.mem_of_getElem? hu2)
 have hv19:=hsb _ (List.mem_of_getElem? hv1)
 have hv29:=hsb _ (List.mem_of_getElem? hv2)
 have hb0:0 < b:=Nat.lt_of_lt_of_le (Nat.mul_pos (by omega) (Nat.pow_pos (by omega))) hb
 have hbn:=Zai b
 rw [hn] at hbn
 have hWn:valB (us.drop lo) < 1000000000 ^ (m+3):=by
  rw [Nat.pow_succ,Nat.mul_comm]
  exact Nat.lt_of_lt_of_le hW (Nat.mul_le_mul_left _ (Nat.le_of_lt hbn))
 have hhigh:=Ziu hWn
 -- the first groups
 have hV:b=(v1 * 1000000000+v2) * 1000000000 ^ m+valB ((mag b).take m):=by
  have:=Zog (xs:=mag b) (k:=m) (by rw [← hv2];congr 1;omega) (by rw [← hv1];congr 1;omega) hn
  rwa [Za8] at this
 have hVl:valB ((mag b).take m) < 1000000000 ^ m:=by
  have:=Zdi (xs:=(mag b).take m) fun x hx=>hsb x (List.mem_of_mem_take hx)
  rwa [List.length_take,Nat.min_eq_left (by omega)] at this
 have hWe:valB (us.drop lo)=((u0 * 1000000000+u1) * 1000000000+u2) * 1000000000 ^ m+valB ((us.drop lo).take m) :=
  Zko (by rw [List.getElem?_drop,← hu2];congr 1;omega) (by rw [List.getElem?_drop,← hu1];congr 1;omega) (by rw [List.getElem?_drop,← hu0];congr 1;omega) hhigh
 have hWl:valB ((us.drop lo).take m) < 1000000000 ^ m:=by
  have:=Zdi (xs:=(us.drop lo).take m) fun x hx=>hus x (List.mem_of_mem_drop (List.mem_of_mem_take hx))
  rwa [List.length_take,List.length_drop,Nat.min_eq_left (by omega)] at this
 have hK:0 < 1000000000 ^ m:=Nat.pow_pos (by omega)
 have hv1h:1000000000≤2 * v1:=by
  have h1:500000000 * 1000000000 * 1000000000 ^ m≤b:=by rw [Nat.pow_succ] at hb;rw [Nat.mul_assoc,Nat.mul_comm 1000000000];exact hb
  have h2:b < (v1 * 1000000000+1000000000) * 1000000000 ^ m:=by
   have:(v1 * 1000000000+v2+1) * 1000000000 ^ m≤(v1 * 1000000000+1000000000) * 1000000000 ^ m:=Nat.mul_le_mul_right _ (by omega)
   rw [Nat.add_mul _ 1,Nat.one_mul] at this
   omega
  have h3:=Nat.lt_of_mul_lt_mul_right (Nat.lt_of_le_of_lt h1 h2)
  omega
 obtain ⟨hd,hhd⟩:∃ h,h=u0 * 1000000000+u1:=⟨_,rfl⟩
 have hhz:((u0:Int) * 1000000000+u1)=(hd:Int):=by omega
 have hdl:hd < 1000000000000000000:=by omega
 rw [← hhd] at hWe
 generalize hWd:valB (us.drop lo)=W at hW hWn hWe
 refine Zab Tryz.func236 rfl Tryz.ntmps236 rfl ?_
 repeat' first|refine Kz ?_|intro _
 refine Zam (.take 0 (.take 1 (.take 2 (.take 3 (.take 4 (.take 5 (.take 6 (.take 7 (.take 8 (.take 9 (.take 10 (.take 11 (.take 12 (.take 13 (.done))))))))))))))) ?_
 repeat' first|refine Kf ?_|intro _|constructor
 rw [hhz]
 refine Zam (.take 0 (.take 1 (.take 2 (.take 3 (.take 4 (.take 5 (.take 6 (.take 7 (.done))))))))) ?_
 repeat' first|refine Kf ?_|intro _|constructor
 have hq1:((hd:Int) / (v1:Int))=((hd / v1:Nat):Int):=(Int.natCast_ediv _ _).symm
 have hr1:((hd:Int) % (v1:Int))=((hd % v1:Nat):Int):=(Int.natCast_emod _ _).symm
 rw [hq1,hr1]
 have hv10:0 < v1:=by omega
 have hqt:W / b < 1000000000:=Nat.div_lt_of_lt_mul (by rw [Nat.mul_comm];exact hW)
 have hstop:∀ q r,q * v1+r=hd→q≤1000000000→1000000000≤r→q≤W / b:=fun q r h1 h2 h3=>Zxd (B:=1000000000) hb0 hV hVl hv29 hWe h1 h2 h3
 have hexit:∀ q r,q * v1+r=hd→q < 1000000000→q * v2≤r * 1000000000+u2→q≤W / b+1:=fun q r h1 h2 h3=>Zxg (B:=1000000000) hv10 hV hVl hWe h1 h2 h3
 have hdec:∀ q r,q * v1+r=hd→r * 1000000000+u2 < q * v2→W / b < q:=fun q r h1 h2=>Z17 (B:=1000000000) hV hWe hWl h1 h2
 have hini:W / b≤hd / v1:=Zxf (B:=1000000000) hv10 hV hWe hWl hu29 (by omega)
 have hfst:hd / v1≤1000000000+1:=Zso (B:=1000000000) hhd.symm hu19 hv29 hVl hV hWe hW hv1h (by omega)
 have hsum:hd / v1 * v1+hd % v1=hd:=Nat.div_add_mod' hd v1
 have hrl:hd % v1 < v1:=Nat.mod_lt _ hv10
 generalize htq:W / b=tq at hqt hstop hexit hdec hini
 refine Tri.midB (fun e' As'=>∃ q,q < 1000000000∧tq≤q∧q≤tq+1∧e'=[(0,subV 1 vu lo (lo+(mag b).length+1)),(1,v),(5,.int .i64 (mag b).length),(8,.int .u64 (q:Int))]∧As'=.ow (cN .u32) 256 vu us::As) ?_ ?_
 ·refine Tri.loop (ι:=Nat × Nat) (fun s=>s.1 * v1+s.2=hd∧tq≤s.1∧s.1≤1000000001∧s.2 < 1000000000) (fun s=>s.1)
   (fun s=>[(0,subV 1 vu lo (lo+(mag b).length+1)),(1,v),(5,.int .i64 (mag b).length),(6,.int .u64 (v1:Int)),(8,.int .u64 (s.1:Int)),(9,.int .u64 (s.2:Int))]) (fun _=>.ow (cN .u32) 256 vu us::As)
   (hd / v1,hd % v1) ⟨hsum,hini,hfst,by simp only;omega⟩ Zad Zaa ?_
  rintro ⟨q,r⟩ ⟨hqr,hqW,hqB,hrB⟩
  simp only at hqr hqW hqB hrB
  show Tri _ _ _ _ [(0,subV 1 vu lo (lo+(mag b).length+1)),(1,v),(5,.int .i64 (mag b).length),(6,.int .u64 (v1:Int)),(8,.int .u64 (q:Int)),(9,.int .u64 (r:Int))] (.ow (cN .u32) 256 vu us::As) _
  have hqv:q * v2≤1000000001 * 999999999:=Nat.mul_le_mul hqB (by omega)
  have hqvz:(q:Int) * (v2:Int)=((q * v2:Nat):Int):=(Int.natCast_mul _ _).symm
  have hnext:tq < q→∃ q',q=q'+1∧tq≤q'∧q' * v1+(r+v1)=hd:=fun h=>by
   obtain ⟨q',rfl⟩:∃ q',q=q'+1:=⟨q - 1,by omega⟩
   rw [Nat.add_mul,Nat.one_mul] at hqr
   exact ⟨q',rfl,by omega,by omega⟩
  repeat' first|refine Kz ?_|intro _
  have hl2:(((mag b).length:Int) - 2)=(((mag b).length - 2:Nat):Int):=by omega
  by_cases hq0:(1000000000:Int)≤q
  ·obtain ⟨q',h1,h2,h3⟩:=hnext (by omega)
   subst h1
   refine Zam (.take 0 (.take 1 (.take 2 (.take 3 (.take 4 (.take 5 (.take 6 (.take 7 (.take 8 (.take 9 (.take 10 (.take 11 (.take 12 (.take 13 (.take 14 (.take 15 (.take 16 (.take 17 (.take 18 (.take 19 (.take 20 (.take 21 (.done))))))))))))))))))))))) ?_
   repeat' first|refine Kf ?_|intro _|constructor
   (refine Kx (fun hc=>?_) fun hc=>?_)
   ·repeat' first|refine Kf ?_|intro _|constructor
    have h6:=hstop q' (r+v1) h3 (by omega) (by omega)
    exact Post.cut _ _ ⟨q',by omega,h2,by omega,rfl,rfl⟩ Zad Zaa
   ·repeat' first|refine Kf ?_|intro _|constructor
    exact Post.round (q',r+v1) ⟨h3,h2,by simp only;omega,by simp only;omega⟩ (by simp only;omega) Zad Zaa
  ·by_cases hgt:(r:Int) * 1000000000+u2 < (q:Int) * v2
   ·obtain ⟨q',h1,h2,h3⟩:=hnext (hdec q r hqr (by omega))
    subst h1
    refine Zam (.take 0 (.take 1 (.take 2 (.take 3 (.take 4 (.take 5 (.take 6 (.take 7 (.take 8 (.take 9 (.take 10 (.take 11 (.take 12 (.take 13 (.take 14 (.take 15 (.take 16 (.take 17 (.take 18 (.take 19 (.take 20 (.take 21 (.done))))))))))))))))))))))) ?_
    repeat' first|refine Kf ?_|intro _|constructor
    rw [hl2]
    repeat' first|refine Kf ?_|intro _|constructor
    rw [hl2]
    repeat' first|refine Kf ?_|intro _|constructor
    (refine Kx (fun hc=>?_) fun hc=>?_)
    ·repeat' first|refine Kf ?_|intro _|constructor
     have h6:=hstop q' (r+v1) h3 (by omega) (by omega)
     exact Post.cut _ _ ⟨q',by omega,h2,by omega,rfl,rfl⟩ Zad Zaa
    ·repeat' first|refine Kf ?_|intro _|constructor
     exact Post.round (q',r+v1) ⟨h3,h2,by simp only;omega,by simp only;omega⟩ (by simp only;omega) Zad Zaa
   ·refine Zam (.take 0 (.take 1 (.take 2 (.take 3 (.take 4 (.take 5 (.take 6 (.take 7 (.take 8 (.take 9 (.take 10 (.take 11 (.take 12 (.take 13 (.take 14 (.take 15 (.take 16 (.take 17 (.take 18 (.take 19 (.take 20 (.take 21 (.done))))))))))))))))))))))) ?_
    repeat' first|refine Kf ?_|intro _|constructor
    rw [hl2]
    repeat' first|refine Kf ?_|intro _|constructor
    rw [hl2]
    repeat' first|refine Kf ?_|intro _|constructor
    exact Post.cut _ _ ⟨q,by omega,hqW,hexit q r hqr (by omega) (by omega),rfl,rfl⟩ Zad Zaa
 rintro _ _ ⟨q,hqB,hqW,hq1,rfl,hBs⟩
 subst hBs
 clear hini hfst hsum hrl hdec hexit hstop
 repeat' first|refine Kz ?_|intro _
 refine Tri.loop (ι:=Nat × List Nat × Nat × Nat) (fun s=>s.1≤(mag b).length∧s.2.1.length=us.length∧(∀ x∈s.2.1,x < 1000000000)∧s.2.2.1 < 1000000000∧s.2.2.2≤1∧s.2.1.drop (lo+s.1)=us.drop (lo+s.1)∧s.2.1.take lo=us.take lo∧valB (s.2.1.drop lo)+q * valB ((mag b).take s.1)=W+1000000000 ^ s.1 * (s.2.2.1+s.2.2.2)) (fun s=>(mag b).length - s.1)
  (fun s=>[(0,subV 1 vu lo (lo+(mag b).length+1)),(1,v),(5,.int .i64 (mag b).length),(8,.int .u64 (q:Int)),(10,.int .u64 (s.2.2.1:Int)),(11,.int .i64 (s.2.2.2:Int)),(75,v),(76,.int .i64 (mag b).length),(77,.int .i64 (s.1:Int))]) (fun s=>.ow (cN .u32) 256 vu s.2.1::As)
  (0,us,0,0) ⟨by omega,rfl,hus,by simp only;omega,by simp only;omega,rfl,rfl,by simp [valB,hWd]⟩ Zad Zaa ?_
 rintro ⟨i,xs,c,bo⟩ ⟨hi,hxl,hxs,hc9,hbo,hxd,hxt,hval⟩
 simp only at hi hxl hxs hc9 hbo hxd hxt hval
 show Tri _ _ _ _ [(0,subV 1 vu lo (lo+(mag b).length+1)),(1,v),(5,.int .i64 (mag b).length),(8,.int .u64 (q:Int)),(10,.int .u64 (c:Int)),(11,.int .i64 (bo:Int)),(75,v),(76,_),(77,.int .i64 (i:Int))] (.ow (cN .u32) 256 vu xs::As) _
 repeat' first|refine Kz ?_|intro _
 (refine Kx (fun hc=>?_) fun hc=>?_)
 ·obtain ⟨d,hd'⟩:∃ d,(mag b)[i]?=some d:=⟨_,List.getElem?_eq_getElem (by omega)⟩
  have hd9:=hsb d (List.mem_of_getElem? hd')
  have htb:=Zaw hd'
  obtain ⟨p,hp⟩:∃ p,xs[lo+i]?=some p:=⟨_,List.getElem?_eq_getElem (by omega)⟩
  have hp9:=hxs p (List.mem_of_getElem? hp)
  have hqd:q * d≤999999999 * 999999999:=Nat.mul_le_mul (by omega) (by omega)
  obtain ⟨t,ht⟩:∃ t,t=c+q * d:=⟨_,rfl⟩
  have htz:(c:Int)+(q:Int) * (d:Int)=(t:Int):=by rw [ht,Int.natCast_add,Int.natCast_mul]
  have hnew:∀ g b',g+t % 1000000000+bo=p+1000000000 * b'→valB ((xs.set (lo+i) g).drop lo)+q * valB ((mag b).take (i+1))=W+1000000000 ^ (i+1) * (t / 1000000000+b'):=fun g b' h=>by
   rw [htb,Nat.mul_add,Nat.mul_left_comm,Nat.pow_succ,ht]
   exact Zr7 (Zdh hp) hval (by rw [← ht];exact h)
  have hxd':∀ g,(xs.set (lo+i) g).drop (lo+(i+1))=us.drop (lo+(i+1)):=fun g=>by
   rw [List.drop_set_of_lt (by omega),show lo+(i+1)=(lo+i)+1 by omega,← List.drop_drop,hxd,List.drop_drop]
  have hxt':∀ g,(xs.set (lo+i) g).take lo=us.take lo:=fun g=>by rw [List.take_set_of_le (by omega),hxt]
  repeat' first|refine Kz ?_|intro _
  rw [htz]
  repeat' first|refine Kz ?_|intro _
  (refine Kx (fun hc=>?_) fun hc=>?_)
  ·have e9:((p:Int) - bo - (t:Int) % 1000000000+1000000000)=((p+1000000000 - bo - t % 1000000000:Nat):Int):=by omega
   repeat' first|refine Kz ?_|intro _
   rw [e9]
   repeat' first|refine Kz ?_|intro _
   exact Post.round (i+1,xs.set (lo+i) (p+1000000000 - bo - t % 1000000000),t / 1000000000,1) ⟨by simp only;omega,by simpa using hxl,Zax hxs (by omega),by simp only;omega,Nat.le_refl 1,hxd' _,hxt' _,hnew _ 1 (by omega)⟩ (by simp only;omega) Zad Zaa
  ·have e9:((p:Int) - bo - (t:Int) % 1000000000)=((p - bo - t % 1000000000:Nat):Int):=by omega
   repeat' first|refine Kz ?_|intro _
   rw [e9]
   repeat' first|refine Kz ?_|intro _
   exact Post.round (i+1,xs.set (lo+i) (p - bo - t % 1000000000),t / 1000000000,0) ⟨by simp only;omega,by simpa using hxl,Zax hxs (by omega),by simp only;omega,Nat.zero_le 1,hxd' _,hxt' _,hnew _ 0 (by omega)⟩ (by simp only;omega) Zad Zaa
 have hie:i=(mag b).length:=by omega
 subst hie
 rw [Zak (Nat.le_refl _),Za8] at hval
 have hat:∀ ys:List Nat,ys.drop (lo+(mag b).length)=us.drop (lo+(mag b).length)→ys[lo+(mag b).length]?=some u0∧valB (ys.drop lo)=valB ((ys.drop lo).take (mag b).length)+1000000000 ^ (mag b).length * u0:=fun ys h=>by
  have h1:ys[lo+(mag b).length]?=some u0:=by
   rw [← hu0]
   have h2:=congrArg (fun l:List Nat=>l[0]?) h
   simpa [List.getElem?_drop] using h2
  refine ⟨h1,Zsy (by rw [List.getElem?_drop];exact h1) ?_⟩
  rw [List.drop_drop,show lo+((mag b).length+1)=(lo+(mag b).length)+1 by omega,← List.drop_drop,h,List.drop_drop]
  rw [List.drop_drop] at hhigh
  rw [show lo+(mag b).length+1=lo+(m+3) by omega]
  exact hhigh
 have hlow:∀ ys:List Nat,ys.length=us.length→(∀ x∈ys,x < 1000000000)→valB ((ys.drop lo).take (mag b).length) < 1000000000 ^ (mag b).length:=fun ys h1 h2=>by
  have:=Zdi (xs:=(ys.drop lo).take (mag b).length) fun x hx=>h2 x (List.mem_of_mem_drop (List.mem_of_mem_take hx))
  rwa [List.length_take,List.length_drop,Nat.min_eq_left (by omega)] at this
 obtain ⟨hx0,hxv⟩:=hat xs hxd
 have hxL:=hlow xs hxl hxs
 have hbP:b < 1000000000 ^ (mag b).length:=Zai b
 have hzero:∀ ys:List Nat,ys[lo+(mag b).length]?=some u0→valB (ys.drop lo)=valB ((ys.drop lo).take (mag b).length)+1000000000 ^ (mag b).length * u0→valB ((ys.set (lo+(mag b).length) 0).drop lo)=valB ((ys.drop lo).take (mag b).length):=fun ys h1 h2=>by
  have:=Zdh (lo:=lo) (i:=(mag b).length) (g:=0) h1
  omega
 rw [hxv] at hval
 repeat' first|refine Kz ?_|intro _
 (refine Kx (fun hc=>?_) fun hc=>?_)
 ·have hq0:0 < q:=by
   rcases Nat.eq_zero_or_pos q with h|h
   ·exfalso
    subst h
    have:=Nat.mul_le_mul_left (1000000000 ^ (mag b).length) (show u0+1≤c+bo by omega)
    rw [Nat.mul_add,Nat.mul_one] at this
    omega
   ·exact h
  repeat' first|refine Kz ?_|intro _
  refine Tri.loop (ι:=Nat × List Nat × Nat) (fun s=>s.1≤(mag b).length∧s.2.1.length=us.length∧(∀ x∈s.2.1,x < 1000000000)∧s.2.2≤1∧s.2.1.drop (lo+(mag b).length)=us.drop (lo+(mag b).length)∧s.2.1.take lo=us.take lo∧valB (s.2.1.drop lo)+1000000000 ^ s.1 * s.2.2=valB (xs.drop lo)+valB ((mag b).take s.1)) (fun s=>(mag b).length - s.1)
   (fun s=>[(0,subV 1 vu lo (lo+(mag b).length+1)),(5,.int .i64 (mag b).length),(8,.int .u64 ((q - 1:Nat):Int)),(15,.int .u32 (s.2.2:Int)),(123,v),(124,.int .i64 (mag b).length),(125,.int .i64 (s.1:Int))]) (fun s=>.ow (cN .u32) 256 vu s.2.1::As)
   (0,xs,0) ⟨by simp only;omega,hxl,hxs,by simp only;omega,hxd,hxt,by simp [valB]⟩ Zad Zaa ?_
  rintro ⟨i,ys,o⟩ ⟨hi,hyl,hys,ho,hyd,hyt,hyv⟩
  simp only at hi hyl hys ho hyd hyt hyv
  show Tri _ _ _ _ [(0,subV 1 vu lo (lo+(mag b).length+1)),(5,.int .i64 (mag b).length),(8,.int .u64 ((q - 1:Nat):Int)),(15,.int .u32 (o:Int)),(123,v),(124,_),(125,.int .i64 (i:Int))] (.ow (cN .u32) 256 vu ys::As) _
  repeat' first|refine Kz ?_|intro _
  (refine Kx (fun hc=>?_) fun hc=>?_)
  ·obtain ⟨d,hd'⟩:∃ d,(mag b)[i]?=some d:=⟨_,List.getElem?_eq_getElem (by omega)⟩
   have hd9:=hsb d (List.mem_of_getElem? hd')
   have htb:=Zaw hd'
   obtain ⟨p,hp⟩:∃ p,ys[lo+i]?=some p:=⟨_,List.getElem?_eq_getElem (by omega)⟩
   have hp9:=hys p (List.mem_of_getElem? hp)
   have hnew:∀ g o',g+1000000000 * o'=p+d+o→valB ((ys.set (lo+i) g).drop lo)+1000000000 ^ (i+1) * o'=valB (xs.drop lo)+valB ((mag b).take (i+1)):=fun g o' h=>by
    rw [htb,Nat.pow_succ]
    exact Zt1 (Zdh hp) hyv h
   have hyd':∀ g,(ys.set (lo+i) g).drop (lo+(mag b).length)=us.drop (lo+(mag b).length):=fun g=>by rw [List.drop_set_of_lt (by omega),hyd]
   have hyt':∀ g,(ys.set (lo+i) g).take lo=us.take lo:=fun g=>by rw [List.take_set_of_le (by omega),hyt]
   repeat' first|refine Kz ?_|intro _
   (refine Kx (fun hc=>?_) fun hc=>?_)
   ·have e9:((p:Int)+d+o - 1000000000)=((p+d+o - 1000000000:Nat):Int):=by omega
    repeat' first|refine Kz ?_|intro _
    rw [e9]
    repeat' first|refine Kz ?_|intro _
    exact Post.round (i+1,ys.set (lo+i) (p+d+o - 1000000000),1) ⟨by simp only;omega,by simpa using hyl,Zax hys (by omega),Nat.le_refl 1,hyd' _,hyt' _,hnew _ 1 (by omega)⟩ (by simp only;omega) Zad Zaa
   ·have e9:((p:Int)+d+o)=((p+d+o:Nat):Int):=by omega
    rw [e9]
    repeat' first|refine Kz ?_|intro _
    exact Post.round (i+1,ys.set (lo+i) (p+d+o),0) ⟨by simp only;omega,by simpa using hyl,Zax hys (by omega),Nat.zero_le 1,hyd' _,hyt' _,hnew _ 0 (by omega)⟩ (by simp only;omega) Zad Zaa
  ·have hie:i=(mag b).length:=by omega
   subst hie
   obtain ⟨hy0,hyw⟩:=hat ys hyd
   rw [Zak (Nat.le_refl _),Za8,hyw,hxv] at hyv
   obtain ⟨k1,k2⟩:=Zxe (o:=o) hxL hbP hval (by omega) (by rw [htq];exact hq1) hb0 (by omega) (hlow ys hyl hys)
   repeat' first|refine Kz ?_|intro _
   (refine Zac ?_)
   refine ⟨_,⟨ys.set (lo+(mag b).length) 0,?_,by simpa using hyl,Zax hys (by omega),?_,by rw [List.take_set_of_le (by omega),hyt],rfl⟩,Zaa⟩
   ·rw [hWd,k1];rfl
   ·rw [hzero ys hy0 hyw,k2,hWd]
 ·repeat' first|refine Kz ?_|intro _
  obtain ⟨k1,k2⟩:=Zsn hxL hbP hval (by omega) (by rw [htq];exact hqW) hb0
  (refine Zac ?_)
  refine ⟨_,⟨xs.set (lo+(mag b).length) 0,?_,by simpa using hxl,Zax hxs (by omega),?_,by rw [List.take_set_of_le (by omega),hxt],rfl⟩,Zaa⟩
  ·rw [hWd,k1]
  ·rw [hzero xs hx0 hxv,k2,hWd]
end Go.Proofs.YtbfgldlfciimiaaGreatDoor
namespace Go.Proofs.YtbfgldlfciimiaaGreatDoor
open Go Go.Sx
variable {w0:World} {As:List Ent}
def DivR (As:List Ent) (q r:Nat) (u:Value) (Bs:List Ent):Prop:=∃ p cap p' cap',u=.tuple #[.slice p (mag q).length cap,.slice p' (mag r).length cap']∧Bs=.ft (rd (cN .u32) (.slice p (mag q).length cap) (mag q))::.ft (rd (cN .u32) (.slice p' (mag r).length cap') (mag r))::As
theorem Z27 {b:Nat} (h:(mag b).length=1):b < 1000000000∧(mag b)[0]?=some b:=by
 have h1:=Zai b
 rw [h,Nat.pow_one] at h1
 refine ⟨h1,?_⟩
 have hb:b≠0:=fun h0=>by rw [h0,Zaz] at h;cases h
 rw [Zeu hb,List.getElem?_cons_zero,Nat.mod_eq_of_lt h1]
theorem Zel {s:Nat} (h0:0 < s) (h:s < 1000000000):mag s=[s]:=by
 rw [Zeu (by omega),Nat.mod_eq_of_lt h,Nat.div_eq_of_lt h,Zaz]
theorem Zby {v o:Value} {a b:Nat} [hf:FtIn As v Nat (cN .u32) (mag a)] [hg:RdIn As o Nat (cN .u32) (mag b)] (hb0:b≠0) (ha:(mag a).length≤10000000) (hbl:(mag b).length≤100000000):CallsS Tryz.prog w0 221 [v,o] As (DivR As (a / b) (a % b)):=by
 refine Zae v fun pv cv hv=>?_
 have hsa:=Za2 a
 have hsb:=Za2 b
 by_cases hlt:a < b
 ·rw [Nat.div_eq_of_lt hlt,Nat.mod_eq_of_lt hlt]
  subst hv
  have hla:=Zah (Nat.le_of_lt hlt)
  refine Zab Tryz.func221 rfl Tryz.ntmps221 rfl ?_
  repeat' first|refine Kz ?_|intro _
  refine Kt rfl (Zc7 (a:=a) (b:=b) (by omega) hbl) ?_
  have hcmp:Lib.compareInt a b < 0:=Yii.2 hlt
  repeat' first|refine Kz ?_|intro _
  (refine Zac ?_)
  exact ⟨_,⟨none,0,pv,cv,by rw [Zaz];rfl,rfl⟩,by rw [Zaz];exact Ents.trans Ents.dup (Ents.trans (Za3 (T:=256) (cN .u32)) Ents.freeze)⟩
 have hba:b≤a:=by omega
 have hlb:=Zah hba
 have hbl0:(mag b).length≠0:=fun h=>hb0 (Zxq.1 h)
 refine Zab Tryz.func221 rfl Tryz.ntmps221 rfl ?_
 repeat' first|refine Kz ?_|intro _
 refine TL.call rfl rfl rfl (Zc7 (a:=a) (b:=b) (by omega) (by omega)) ?_
 rintro _ As ⟨rfl,rfl⟩
 have hcmp:¬ Lib.compareInt a b < 0:=fun h=>hlt (Yii.1 h)
 repeat' first|refine Kz ?_|intro _
 by_cases h1:(mag b).length=1
 ·obtain ⟨hb9,hbg⟩:=Z27 h1
  repeat' first|refine Kz ?_|intro _
  refine TL.call rfl rfl rfl (Zi1 (a:=a) (d:=b) (by omega) (by omega) (by omega)) ?_
  rintro _ _ ⟨p,cap,rfl,rfl⟩
  have hr9:a % b < b:=Nat.mod_lt _ (by omega)
  repeat' first|refine Kz ?_|intro _
  refine TL.call rfl rfl rfl (Zc6 (n:=a % b) (by omega)) ?_
  rintro _ _ ⟨p',cap',rfl,rfl⟩
  repeat' first|refine Kz ?_|intro _
  (refine Zac ?_)
  exact ⟨_,⟨p,cap,p',cap',rfl,rfl⟩,Zaa⟩
 obtain ⟨m,hm⟩:∃ m,(mag b).length=m+2:=⟨(mag b).length - 2,by omega⟩
 obtain ⟨t,ht⟩:∃ t,(mag b)[(mag b).length - 1]?=some t:=⟨_,List.getElem?_eq_getElem (by omega)⟩
 obtain ⟨g1,g2,g3⟩:=Zb5 ht
 have hlast:b / 1000000000 ^ ((mag b).length - 1+1)=0:=by
  rw [show (mag b).length - 1+1=(mag b).length by omega]
  exact Nat.div_eq_of_lt (Zai b)
 rw [hlast,Nat.mul_zero,Nat.add_zero,show (mag b).length - 1=m+1 by omega] at g1
 rw [show (mag b).length - 1=m+1 by omega,g1] at g2
 have hP:0 < 1000000000 ^ (m+1):=Nat.pow_pos (by omega)
 have hlo:t * 1000000000 ^ (m+1)≤b:=by rw [← g1];exact Nat.div_mul_le_self _ _
 have hhi:b < (t+1) * 1000000000 ^ (m+1):=by rw [← g1,Nat.mul_comm];exact Nat.lt_mul_div_succ b hP
 obtain ⟨hs1,hs2⟩:=Zsg (by omega) g3 hlo hhi
 obtain ⟨_,_,hs3⟩:=Zjz (by omega) g3
 have hs9:1000000000 / (t+1) < 1000000000:=by
  rw [Nat.div_lt_iff_lt_mul (by omega)];omega
 have hqz:(1000000000:Int) / ((t:Int)+1)=((1000000000 / (t+1):Nat):Int):=by rw [Int.natCast_ediv];rfl
 repeat' first|refine Kz ?_|intro _
 rw [hqz]
 generalize 1000000000 / (t+1)=s at hs1 hs2 hs3 hs9 hqz ⊢
 have hmag1:=Zel hs3 hs9
 have hVl:(mag (b * s)).length=m+2:=by
  have e1:=Zdo hs2
  have e2:=Zah (show b≤b * s from Nat.le_mul_of_pos_right _ hs3)
  omega
 have hUl:(mag (a * s)).length≤(mag a).length+1:=by
  have:=Zav a s
  rw [hmag1] at this
  simpa using this
 have hV0:0 < b * s:=Nat.mul_pos (by omega) hs3
 have hfl:∀ {x:Nat},x=s→[Value.int .u32 (x:Int)]=(cN .u32).flat (mag s):=fun h=>by rw [hmag1,h];rfl
 repeat' first|refine Kz ?_|intro _
 refine TL.ents (Zbz (cN .u32) (mag s) (hfl rfl) (by rw [hmag1]) (by rw [hmag1])) ?_
 refine TL.call rfl rfl rfl (Zcy (a:=b) (b:=s) (by omega) (by rw [hmag1];simp)) ?_
 rintro _ _ ⟨pV,cV,rfl,rfl⟩
 have hl1:(((mag a).length:Int)+1)=(((mag a).length+1:Nat):Int):=by omega
 repeat' first|refine Kz ?_|intro _
 rw [hl1]
 repeat' first|refine Kz ?_|intro _
 rename_i uv _
 refine TL.ents (Zbz (cN .u32) (mag s) (hfl rfl) (by rw [hmag1]) (by rw [hmag1])) ?_
 refine TL.call rfl rfl rfl (Zcy (a:=a) (b:=s) (by omega) (by rw [hmag1];simp)) ?_
 rintro _ _ ⟨pU,cU,rfl,rfl⟩
 have hU0:(mag (a * s)).length≤(List.replicate ((mag a).length+1) 0).length:=by rw [List.length_replicate];exact hUl
 refine Zrq rfl rfl (Zns (c:=cN .u32) rfl rfl rfl hU0) ?_
 rintro _ _ ⟨rfl,rfl⟩
 obtain ⟨us0,hus0⟩:∃ us0,us0=mag (a * s)++(List.replicate ((mag a).length+1) 0).drop (mag (a * s)).length:=⟨_,rfl⟩
 rw [← hus0]
 have husl:us0.length=(mag a).length+1:=by rw [hus0];simp;omega
 have husv:valB us0=a * s:=by rw [hus0,List.drop_replicate,Zc0,Zb9,Za8];omega
 have huss:∀ x∈us0,x < 1000000000:=fun x hx=>by
  rw [hus0,List.drop_replicate] at hx
  rcases List.mem_append.1 hx with h|h
  ·exact Za2 _ x h
  ·exact Zda _ x h
 clear hus0
 have hl2:(((mag a).length:Int) - (mag (b * s)).length+1)=(((mag a).length - (mag (b * s)).length+1:Nat):Int):=by omega
 repeat' first|refine Kz ?_|intro _
 rw [hl2]
 repeat' first|refine Kz ?_|intro _
 rename_i qv
 have hVb:1000000000 ^ ((mag (b * s)).length - 1)≤b * s:=Zc5 (by omega)
 have hUV:a * s < 1000000000 ^ ((mag a).length - (mag (b * s)).length+1) * (b * s):=by
  have e1:=Zai a
  have e2:a * s < 1000000000 ^ (mag a).length * s:=Nat.mul_lt_mul_of_pos_right e1 hs3
  have e3:1000000000 ^ (m+1)≤b:=by
   have:=Nat.mul_le_mul_right (1000000000 ^ (m+1)) (show 1≤t by omega)
   omega
  refine Nat.lt_of_lt_of_le e2 ?_
  rw [hVl,show (mag a).length=((mag a).length - (m+2)+1)+(m+1) by omega,Nat.pow_add,show ((mag a).length - (m+2)+1)+(m+1) - (m+2)+1=(mag a).length - (m+2)+1 by omega,Nat.mul_assoc]
  exact Nat.mul_le_mul_left _ (Nat.mul_le_mul_right _ e3)
 have hqr:(List.replicate ((mag a).length - (mag (b * s)).length+1) 0).length=(mag a).length - (mag (b * s)).length+1:=List.length_replicate
 have hdl:valB (us0.drop ((mag a).length - (mag (b * s)).length+1)) < b * s:=by
  have e1:=Zbc us0 ((mag a).length - (mag (b * s)).length+1)
  rw [List.length_take,Nat.min_eq_left (by omega),husv] at e1
  exact Nat.lt_of_mul_lt_mul_left (a:=1000000000 ^ ((mag a).length - (mag (b * s)).length+1)) (by omega)
 refine Tri.loop (ι:=Nat × List Nat × List Nat) (fun x=>x.1≤(mag a).length - (mag (b * s)).length+1∧x.2.1.length=(mag a).length - (mag (b * s)).length+1∧(∀ y∈x.2.1,y < 1000000000)∧x.2.2.length=(mag a).length+1∧(∀ y∈x.2.2,y < 1000000000)∧valB (x.2.2.drop x.1) < b * s∧valB x.2.2+1000000000 ^ x.1 * (b * s * valB (x.2.1.drop x.1))=a * s) (fun x=>x.1)
  (fun x=>[(4,qv),(8,.int .u32 (s:Int)),(9,.slice pV (mag (b * s)).length cV),(10,uv),(11,.int .i64 (mag (b * s)).length),(12,.int .i64 ((x.1:Int) - 1))])
  (fun x=>.ow (cN .u32) 256 qv x.2.1::.ow (cN .u32) 256 uv x.2.2::.ft (rd (cN .u32) (.slice pV (mag (b * s)).length cV) (mag (b * s)))::As)
  ((mag a).length - (mag (b * s)).length+1,List.replicate ((mag a).length - (mag (b * s)).length+1) 0,us0)
  ⟨Nat.le_refl _,hqr,Zda _,husl,huss,hdl,by simp [valB,husv]⟩ (by rw [show (((mag a).length - (mag (b * s)).length+1:Nat):Int) - 1=((mag a).length:Int) - (mag (b * s)).length by omega];(exact Zad)) Zaa ?_
 rintro ⟨j,qs,us⟩ ⟨hj,hql,hqs,hul,hus,hlow,hval⟩
 simp only at hj hql hqs hul hus hlow hval
 cases j with
 | zero =>
  rw [List.drop_zero] at hlow hval
  rw [Nat.pow_zero,Nat.one_mul] at hval
  show Tri _ _ _ _ [(4,qv),(8,.int .u32 (s:Int)),(9,.slice pV (mag (b * s)).length cV),(10,uv),(11,.int .i64 (mag (b * s)).length),(12,.int .i64 (((0:Nat):Int) - 1))] (.ow (cN .u32) 256 qv qs::.ow (cN .u32) 256 uv us::.ft (rd (cN .u32) (.slice pV (mag (b * s)).length cV) (mag (b * s)))::As) _
  rw [show ((0:Nat):Int) - 1=-1 from rfl]
  obtain ⟨k1,k2⟩:=Zfv (a:=a * s) (d:=b * s) (q:=valB qs) (r:=valB us) (by rw [Nat.mul_comm (valB qs)];omega) hlow
  rw [Nat.mul_div_mul_right _ _ (by omega)] at k1
  rw [Nat.mul_mod_mul_right] at k2
  have hut:valB (us.take (mag (b * s)).length)=a % b * s:=by
   have e1:=Zbc us (mag (b * s)).length
   rw [Ziu (k:=(mag (b * s)).length) (Nat.lt_trans hlow (Zai _)),Nat.mul_zero,Nat.add_zero] at e1
   rw [e1,← k2]
  have hlen:(mag (a % b * s)).length≤100000000:=by
   have e1:=Zav (a % b) s
   have e2:=Zah (Nat.mod_le a b)
   rw [hmag1] at e1
   simp at e1
   omega
  repeat' first|refine Kz ?_|intro _
  refine TL.ents Ents.freeze ?_
  rw [show (us.drop 0).take ((mag (b * s)).length - 0)=us.take (mag (b * s)).length by simp]
  refine TL.call rfl rfl rfl (Zdj (xs:=us.take (mag (b * s)).length) (fun x hx=>hus x (List.mem_of_mem_take hx)) (by simp;omega)) ?_
  rintro _ _ ⟨pr,cr,rfl,rfl⟩
  rw [hut]
  repeat' first|refine Kz ?_|intro _
  refine TL.call rfl rfl rfl (Zi1 (a:=a % b * s) (d:=s) hlen (by omega) (by omega)) ?_
  rintro _ _ ⟨pr2,cr2,rfl,rfl⟩
  rw [Nat.mul_div_cancel _ (show 0 < s by omega)]
  repeat' first|refine Kz ?_|intro _
  refine Zhy (.ow (cN .u32) 256 qv qs) ?_
  refine TL.ents Ents.freeze ?_
  refine TL.call rfl rfl rfl (Zdj hqs (by omega)) ?_
  rintro _ _ ⟨pq,cq,rfl,rfl⟩
  rw [← k1]
  repeat' first|refine Kz ?_|intro _
  (refine Zac ?_)
  exact ⟨_,⟨pq,cq,pr2,cr2,rfl,rfl⟩,Zaa⟩
 | succ j =>
  show Tri _ _ _ _ [(4,qv),(8,.int .u32 (s:Int)),(9,.slice pV (mag (b * s)).length cV),(10,uv),(11,.int .i64 (mag (b * s)).length),(12,.int .i64 (((j+1:Nat):Int) - 1))] (.ow (cN .u32) 256 qv qs::.ow (cN .u32) 256 uv us::.ft (rd (cN .u32) (.slice pV (mag (b * s)).length cV) (mag (b * s)))::As) _
  rw [show ((j+1:Nat):Int) - 1=(j:Int) by omega]
  obtain ⟨u,hu⟩:∃ u,us[j]?=some u:=⟨_,List.getElem?_eq_getElem (by omega)⟩
  have hW:valB (us.drop j) < 1000000000 * (b * s):=by
   rw [Zdv hu]
   exact Zye (hus u (List.mem_of_getElem? hu)) hlow
  have hW9:valB (us.drop j) / (b * s) < 1000000000:=Nat.div_lt_of_lt_mul (by rw [Nat.mul_comm];exact hW)
  (repeat' (first|((show TL _ _ _ _ (_::_) _ _ _;first|refine Ze1 ?_|refine Zey ?_|(refine Zcn ?_;intro _)|refine Zbp ?_|refine Zbb ?_|refine Ze0 ?_|fail))|(refine Stp.h ?_)|((show Tri _ _ _ (.cond _ _ _) _ _ _;first|refine Zbn ?_|refine Zbo ?_|refine Zat ?_|refine Zau ?_|refine Zap ?_|refine Zaq ?_|fail))))
  refine TL.f rfl rfl (Zds (lo:=j) (hi:=j+(mag (b * s)).length+1) rfl (Zev rfl) (Zfh rfl) (by omega) (by omega)) ?_
  (repeat' (first|((show TL _ _ _ _ (_::_) _ _ _;first|refine Ze1 ?_|refine Zey ?_|(refine Zcn ?_;intro _)|refine Zbp ?_|refine Zbb ?_|refine Ze0 ?_|fail))|(refine Stp.h ?_)|((show Tri _ _ _ (.cond _ _ _) _ _ _;first|refine Zbn ?_|refine Zbo ?_|refine Zat ?_|refine Zau ?_|refine Zap ?_|refine Zaq ?_|fail))))
  refine Zhy (.ow (cN .u32) 256 uv us) ?_
  refine TL.call rfl rfl rfl (Zmd (us:=us) (b:=b * s) (lo:=j) hVl (by omega) (by omega) hus (by exact hs1) hW) ?_
  rintro _ _ ⟨us',rfl,hul',hus',hlow',ht',rfl⟩
  repeat' first|refine Kz ?_|intro _
  refine Post.round (j,qs.set j (valB (us.drop j) / (b * s)),us') ⟨by simp only;omega,by simpa using hql,Zax hqs hW9,by simp only;omega,hus',?_,?_⟩ (by simp only;omega) Zad Zaa
  ·simp only
   rw [hlow']
   exact Nat.mod_lt _ hV0
  ·simp only
   have e1:=Zbc us j
   have e2:=Zbc us' j
   have hset:(qs.set j (valB (us.drop j) / (b * s)))[j]?=some (valB (us.drop j) / (b * s)):=by rw [List.getElem?_set,if_pos rfl,if_pos (by omega)]
   rw [List.length_take,Nat.min_eq_left (by omega)] at e1
   rw [List.length_take,Nat.min_eq_left (by omega),ht',hlow'] at e2
   rw [Zdv hset,List.drop_set_of_lt (by omega),← e2]
   rw [← e1,Nat.pow_succ] at hval
   exact Zyc hval
end Go.Proofs.YtbfgldlfciimiaaGreatDoor
namespace Go.Sx
open Go
theorem Zn4 (n:Nat):n < 10 ^ Lib.nDigits n:=by
 have h:=Zdt (l:=Lib.decDigits n) (Zra n)
 rwa [Zmj,Zbm] at h
theorem Zh9 (n:Nat):Lib.nDigits n≤9 * (mag n).length+1:=by
 by_cases h0:n=0
 ·subst h0;rw [Lib.nDigits_small (by decide)];omega
 ·have h3:(mag n).length≠0:=fun h=>h0 (Zxq.1 h)
  obtain ⟨d,hd⟩:∃ d,(mag n)[(mag n).length - 1]?=some d:=⟨_,List.getElem?_eq_getElem (by omega)⟩
  obtain ⟨k1,k2,k3⟩:=Zb5 hd
  have hl0:n / 1000000000 ^ ((mag n).length - 1+1)=0:=by
   rw [show (mag n).length - 1+1=(mag n).length by omega]
   exact Nat.div_eq_of_lt (Zai n)
  rw [Zck _ k2,k1,hl0,Nat.mul_zero,Nat.add_zero]
  have:=Zbt (k:=8) (r:=d) (by simpa using k3)
  omega
theorem Zgb (a b:Nat):(mag (a+b)).length≤max (mag a).length (mag b).length+1:=by
 refine Zdo ?_
 have h1:=Nat.lt_of_lt_of_le (Zai a) (Nat.pow_le_pow_right (n:=1000000000) (by omega) (Nat.le_max_left (mag a).length (mag b).length))
 have h2:=Nat.lt_of_lt_of_le (Zai b) (Nat.pow_le_pow_right (n:=1000000000) (by omega) (Nat.le_max_right (mag a).length (mag b).length))
 rw [Nat.pow_succ]
 omega
end Go.Sx
namespace Go.Proofs.YtbfgldlfciimiaaGreatDoor
open Go Go.Sx
variable {w0:World} {As:List Ent}
theorem Zku {v o:Value} {a b:Nat} [hf:FtIn As v Nat (cN .u32) (mag a)] [hg:FtIn As o Nat (cN .u32) (mag b)] (ha:(mag a).length≤10000000) (hb:(mag b).length≤10000000):CallsS Tryz.prog w0 184 [v,o] As (MagR As (Nat.gcd a b)):=by
 refine Zff ?_
 refine Zab Tryz.func184 rfl Tryz.ntmps184 rfl ?_
 repeat' first|refine Kz ?_|intro _
 refine Tri.loop (ι:=Value × Value × Nat × Nat) (fun s=>Nat.gcd s.2.2.1 s.2.2.2=Nat.gcd a b∧(mag s.2.2.1).length≤10000000∧(mag s.2.2.2).length≤10000000) (fun s=>s.2.2.2)
  (fun s=>[(0,s.1),(1,s.2.1)]) (fun s=>.ft (rd (cN .u32) s.2.1 (mag s.2.2.2))::.ft (rd (cN .u32) s.1 (mag s.2.2.1))::As) (v,o,a,b) ⟨rfl,ha,hb⟩ Zad (Ents.trans (Ents.dup (v:=v)) (Ents.dup (v:=o))) ?_
 rintro ⟨v,o,x,y⟩ ⟨hxy,hx,hy⟩
 simp only at hxy hx hy
 show Tri _ _ _ _ [(0,v),(1,o)] (.ft (rd (cN .u32) o (mag y))::.ft (rd (cN .u32) v (mag x))::As) _
 repeat' first|refine Kz ?_|intro _
 refine Kt rfl (Zc8 (n:=y)) ?_
 by_cases hy0:y=0
 ·subst hy0
  rw [Nat.gcd_zero_right] at hxy
  subst hxy
  repeat' first|refine Kz ?_|intro _
  (refine Zac ?_)
  exact ⟨_,rfl,Zaa⟩
 ·by_cases hs:(mag x).length≤2∧(mag y).length≤2
  ·obtain ⟨hs1,hs2⟩:=hs
   have hx9:x < 1000000000000000000:=by
    have h1:=Zai x
    have h2:=Nat.pow_le_pow_right (n:=1000000000) (by omega) hs1
    omega
   have hy9:y < 1000000000000000000:=by
    have h1:=Zai y
    have h2:=Nat.pow_le_pow_right (n:=1000000000) (by omega) hs2
    omega
   repeat' first|refine Kz ?_|intro _
   refine Kt rfl (Ziy (a:=x) hs1) ?_
   repeat' first|refine Kz ?_|intro _
   refine Kt rfl (Ziy (a:=y) hs2) ?_
   repeat' first|refine Kz ?_|intro _
   refine Tri.loop (ι:=Nat × Nat) (fun s=>Nat.gcd s.1 s.2=Nat.gcd a b∧s.1 < 1000000000000000000∧s.2 < 1000000000000000000) (fun s=>s.2)
    (fun s=>[(5,.int .u64 (s.1:Int)),(6,.int .u64 (s.2:Int))]) (fun _=>As) (x,y) ⟨hxy,hx9,hy9⟩ Zad Zaa ?_
   rintro ⟨c,d⟩ ⟨hcd,hc9,hd9⟩
   simp only at hcd hc9 hd9
   show Tri _ _ _ _ [(5,.int .u64 (c:Int)),(6,.int .u64 (d:Int))] As _
   repeat' first|refine Kz ?_|intro _
   (refine Kx (fun hc=>?_) fun hc=>?_)
   ·have hre:((c:Int) % (d:Int))=((c % d:Nat):Int):=(Int.natCast_emod _ _).symm
    have hlt:c % d < d:=Nat.mod_lt _ (by omega)
    repeat' first|refine Kz ?_|intro _
    refine Zam (.take 0 (.take 1 (.take 2 (.take 3 (.take 4 (.take 5 (.done))))))) ?_
    repeat' first|refine Kf ?_|intro _|constructor
    rw [hre]
    exact Post.round (d,c % d) ⟨by simp only;rw [← hcd,Nat.gcd_comm,Nat.gcd_comm c d];exact (Nat.gcd_rec d c).symm,hd9,by simp only;omega⟩ (by simp only;exact hlt) Zad Zaa
   ·have hd0:d=0:=by omega
    subst hd0
    rw [Nat.gcd_zero_right] at hcd
    repeat' first|refine Kz ?_|intro _
    refine TL.call rfl rfl rfl (Zc6 (n:=c) (by omega)) ?_
    rintro _ _ ⟨p,cap,rfl,rfl⟩
    rw [← hcd]
    repeat' first|refine Kz ?_|intro _
    (refine Zac ?_)
    exact ⟨_,rfl,Zaa⟩
  ·have hlt:x % y < y:=Nat.mod_lt _ (by omega)
   have hl9:=Zah (Nat.le_of_lt hlt)
   have hgc:Nat.gcd y (x % y)=Nat.gcd a b:=by rw [← hxy,Nat.gcd_comm x y,Nat.gcd_rec y x,Nat.gcd_comm]
   by_cases hs1:(mag x).length≤2
   all_goals
    repeat' first|refine Kf ?_|intro _|constructor
    refine TL.call rfl rfl rfl (Zby (a:=x) (b:=y) hy0 (by omega) (by omega)) ?_
    rintro _ _ ⟨p,cap,p',cap',rfl,rfl⟩
    repeat' first|refine Kz ?_|intro _
    exact Post.round (o,.slice p' (mag (x % y)).length cap',y,x % y) ⟨hgc,by simp only;omega,by simp only;omega⟩ (by simp only;exact hlt) Zad Zaa
end Go.Proofs.YtbfgldlfciimiaaGreatDoor
namespace Go.Sx
open Go
theorem St.below {w0 w w':World} {As:List Ent} (h:St w0 w As) (hb:RowKit.Below w.heap.size w w'):St w0 w' As:=by
 obtain ⟨H,bs,g⟩:=h
 refine ⟨H,bs,Nat.le_trans g.size hb.size,hb.os.trans g.os,hb.tape.trans g.tape,hb.output.trans g.output,fun b o hbo=>?_,g.old,Sat.move (FH.le_refl H) g.sat fun b hm=>hb.block b (g.sat.lt b hm),g.nd,g.ap⟩
 have h1:=g.fz b o hbo
 rw [hb.block b (Array.getElem?_eq_some_iff.1 h1).1];exact h1
end Go.Sx
namespace Go.Proofs.YtbfgldlfciimiaaGreatDoor
open Go Go.Sx
variable {w0:World} {As:List Ent}
theorem Zf8 {v:Value} {x:Int} [hf:RdIn As v Nat (cN .u32) (mag x.natAbs)]:CQ Tryz.prog w0 182 [.agg #[v,.bool (decide (x < 0))]] As (.agg #[v,.bool (decide (-x < 0))]):=by
 refine Zae v fun pv cv hv=>?_
 subst hv
 refine Zab Tryz.func182 rfl Tryz.ntmps182 rfl ?_
 have e1:(!decide (x < 0)&&decide (x.natAbs≠0))=decide (-x < 0):=by
  rw [Bool.eq_iff_iff]
  simp only [Bool.and_eq_true,Bool.not_eq_true',decide_eq_false_iff_not,decide_eq_true_eq]
  omega
 repeat' first|refine Kz ?_|intro _
 refine TL.call rfl rfl rfl (Zzq (n:=x.natAbs)) ?_
 rintro _ As ⟨rfl,rfl⟩
 rw [e1]
 repeat' first|refine Kz ?_|intro _
 exact Kv
end Go.Proofs.YtbfgldlfciimiaaGreatDoor
namespace Go.Proofs.YtbfgldlfciimiaaGreatDoor
open Go Go.Sx
variable {w0:World} {As:List Ent}
theorem Zg7 {s:List UInt8} (hs:s.length≤1000000000):CQ Tryz.prog w0 144 [.string ⟨s.toArray⟩] As (.int .i64 (checkW s)):=by
 refine Zab Tryz.func144 rfl Tryz.ntmps144 rfl ?_
 repeat' first|refine Kz ?_|intro _
 refine TL.call rfl rfl rfl (Zc2 hs) ?_
 rintro _ _ ⟨p,cap,rfl,rfl⟩
 unfold checkW
 cases h1:readW s with
 | none =>
  repeat' first|refine Kz ?_|intro _
  exact Kv
 | some x =>
  repeat' first|refine Kz ?_|intro _
  exact Kv
end Go.Proofs.YtbfgldlfciimiaaGreatDoor
namespace Go.Proofs.YtbfgldlfciimiaaGreatDoor
open Go Go.Sx
variable {w0:World} {As:List Ent}
instance:IfT Tryz.prog 290:=⟨_,Tryz.underlying290⟩
def ErrR (w:World):Prop:=∃ ev,w.cell? ⟨5,0,none⟩=some ev∧(ev=.nilIface∨∃ te pe,ev=.iface te pe)
theorem ErrR.keep {w:World} (he:ErrR w0) (h:St w0 w As):ErrR w:=by
 obtain ⟨ev,h1,h2⟩:=he
 refine ⟨ev,?_,h2⟩
 simp only [World.cell?] at h1 ⊢
 cases ho:w0.heap[5]? with
 | none=>rw [ho] at h1;cases h1
 | some o=>rw [St.old h ho];rw [ho] at h1;exact h1
theorem Z6t {s:List UInt8} {z:Int} (hr:readW s=some z) (h:-9223372036854775808≤z∧z≤9223372036854775807) (hs:s.length≤1000000000) :
  CallsS Tryz.prog w0 225 [.string ⟨s.toArray⟩,.int .i64 10,.int .i64 64] As fun u Bs=>u=.tuple #[.int .i64 z,.nilIface]∧Bs=As :=
 CallsS.mk fun w hst=>(Tryz.strconv_ParseInt_10_at64_ok ⟨s.toArray⟩ (by show s.toArray.size≤_;simp;omega) z (by rw [show (⟨s.toArray⟩:ByteArray).data.toList=s from rfl,Zmf hr,if_pos h]) w).mono fun en w' ⟨h1,h2⟩=>by
  refine ⟨_,As,h1,⟨rfl,rfl⟩,?_⟩
  rcases h2 with rfl|⟨t,rfl⟩
  ·exact hst
  ·exact hst.below (Lib.bytesWorld_below _ _ _)
theorem Zva (he:ErrR w0) {s:List UInt8} {z:Int} (hr:readW s=some z) (h:¬ (-9223372036854775808≤z∧z≤9223372036854775807)) (hs:s.length≤1000000000) :
  CallsS Tryz.prog w0 225 [.string ⟨s.toArray⟩,.int .i64 10,.int .i64 64] As fun u Bs=>(∃ n t p,u=.tuple #[.int .i64 n,.iface t p])∧Bs=As :=
 CallsS.mk fun w hst=>by
  obtain ⟨ev,h1,h2⟩:=he.keep hst
  refine (Tryz.strconv_ParseInt_10_at64_range ⟨s.toArray⟩ (by show s.toArray.size≤_;simp;omega) (by rw [show (⟨s.toArray⟩:ByteArray).data.toList=s from rfl,Zmf hr,if_neg h]) ev w h1 h2).mono fun en w' ⟨N,k1,_,_,k4⟩=>?_
  exact ⟨_,As,k1,⟨⟨_,_,_,rfl⟩,rfl⟩,hst.below k4⟩
theorem Yeg (he:ErrR w0) {s:List UInt8} (hs:s.length≤1000000000):CQ Tryz.prog w0 194 [.string ⟨s.toArray⟩] As (.tuple #[.int .i64 (intW s).1,.int .i64 (intW s).2]):=by
 refine Zab Tryz.func194 rfl Tryz.ntmps194 rfl ?_
 repeat' first|refine Kz ?_|intro _
 refine Kt rfl (Zg7 hs) ?_
 unfold intW checkW
 cases h1:readW s with
 | none =>
  simp only [Option.isSome_none,Bool.false_eq_true,if_false]
  repeat' first|refine Kz ?_|intro _
  exact Kv
 | some x =>
  simp only [Option.isSome_some,if_true]
  by_cases hx:-9223372036854775808≤x∧x≤9223372036854775807
  ·rw [if_pos hx]
   repeat' first|refine Kz ?_|intro _
   refine Kt rfl (Z6t h1 hx hs) ?_
   repeat' first|refine Kz ?_|intro _
   refine TL.f rfl rfl (Zfx rfl) ?_
   repeat' first|refine Kz ?_|intro _
   exact Kv
  ·rw [if_neg hx]
   repeat' first|refine Kz ?_|intro _
   refine TL.call rfl rfl rfl (Zva he h1 hx hs) ?_
   rintro _ _ ⟨⟨n,t,p,rfl⟩,rfl⟩
   repeat' first|refine Kz ?_|intro _
   refine TL.f rfl rfl (Ze3 rfl) ?_
   repeat' first|refine Kz ?_|intro _
   exact Kv
end Go.Proofs.YtbfgldlfciimiaaGreatDoor
namespace Go.Sx
open Go
end Go.Sx
namespace Go.Proofs.YtbfgldlfciimiaaGreatDoor
open Go Go.Sx
variable {w0:World} {As:List Ent}
end Go.Proofs.YtbfgldlfciimiaaGreatDoor
