/- Walks: magnitudes of small numbers, products, a number by one group. -/
import Derived.Test.YtbfgldlfciimiaaGreatDoorWb1
import Derived.Test.YtbfgldlfciimiaaGreatDoorCa1
set_option maxHeartbeats 1000000
namespace Go.Proofs.YtbfgldlfciimiaaGreatDoor.Q
open Go Go.Sx
variable {w0:World} {As:List Ent}
theorem Zc6 {n:Nat} (hn:n≤18446744073709551615):CallsS Tryz.prog w0 196 [.int .u64 (n:Int)] As (MagR As n):=by
 refine Zff ?_
 refine Zab Tryz.func196 rfl Tryz.ntmps196 rfl ?_
 repeat' first|refine Kz ?_|intro _
 refine Tri.loop (ι:=Nat × Value × List Nat) (fun s=>s.1≤n∧s.2.2.length+(mag s.1).length≤(mag n).length∧s.2.2++mag s.1=mag n) (fun s=>s.1)
  (fun s=>[(0,.int .u64 (s.1:Int)),(3,s.2.1)]) (fun s=>.ow (cN .u32) 256 s.2.1 s.2.2::As) (n,.slice none 0 0,[]) ⟨Nat.le_refl _,by simp,rfl⟩ Zad (Za3 _) ?_
 rintro ⟨k,sv,xs⟩ ⟨hk,hl,hx⟩
 simp only at hk hl hx
 have hml:(mag n).length≤3:=Zdo (by omega)
 show Tri _ _ _ _ [(0,.int .u64 (k:Int)),(3,sv)] (.ow (cN .u32) 256 sv xs::As) _
 repeat' first|refine Kz ?_|intro _
 (refine Kx (fun hc=>?_) fun hc=>?_)
 ·have hk0:k≠0:=by omega
  rw [Zeu hk0] at hx hl
  repeat' first|refine Kz ?_|intro _
  rename_i v9
  exact Post.round (k / 1000000000,v9,xs++[k % 1000000000]) ⟨by simp only;omega,by simp at hl ⊢;omega,by simpa using hx⟩ (by simp only;omega) Zad (Ents.refl _)
 ·have hk0:k=0:=by omega
  subst hk0
  rw [Zaz,List.append_nil] at hx
  subst hx
  repeat' first|refine Kz ?_|intro _
  (refine Zac ?_)
  exact ⟨_,rfl,Ents.trans Ents.freeze Zaa⟩
theorem Ziy {v:Value} {a:Nat} [hf:RdIn As v Nat (cN .u32) (mag a)] (ha:(mag a).length≤2):CQ Tryz.prog w0 197 [v] As (.int .u64 (a:Int)):=by
 refine Zab Tryz.func197 rfl Tryz.ntmps197 rfl ?_
 repeat' first|refine Kz ?_|intro _
 refine Tri.loop (ι:=Nat) (fun j=>j≤(mag a).length) (fun j=>j)
  (fun j=>[(0,v),(3,.int .u64 ((a / 1000000000 ^ j:Nat):Int)),(4,.int .i64 ((j:Int) - 1))]) (fun _=>As) (mag a).length (Nat.le_refl _) (by rw [Nat.div_eq_of_lt (Zai a)];(exact Zad)) Zaa ?_
 intro j hj
 cases j with
 | zero =>
  rw [show ((0:Nat):Int) - 1=-1 from rfl]
  repeat' first|refine Kz ?_|intro _
  (refine Zac ?_)
  exact ⟨_,⟨by simp,rfl⟩,Zaa⟩
 | succ j =>
  rw [show ((j+1:Nat):Int) - 1=(j:Int) by omega]
  obtain ⟨d,hd⟩:∃ d,(mag a)[j]?=some d:=⟨_,List.getElem?_eq_getElem (by omega)⟩
  obtain ⟨k1,k2,k3⟩:=Zb5 hd
  have hlt:a < 1000000000 * 1000000000:=Nat.lt_of_lt_of_le (Zai a) (Nat.le_trans (Nat.pow_le_pow_right (by omega) ha) (by decide))
  have hq:a / 1000000000 ^ (j+1) < 1000000000:=by
   rw [Nat.pow_succ,Nat.mul_comm,← Nat.div_div_eq_div_mul]
   exact Nat.lt_of_le_of_lt (Nat.div_le_self _ _) (by omega)
  repeat' first|refine Kz ?_|intro _
  refine Post.round j (by omega) (by omega) ?_ Zaa
  rw [show (((a / 1000000000 ^ j:Nat)):Int)=((a / 1000000000 ^ (j+1):Nat):Int) * 1000000000+(d:Int) by omega]
  (exact Zad)
theorem Zcy {v o:Value} {a b:Nat} [hf:RdIn As v Nat (cN .u32) (mag a)] [hg:RdIn As o Nat (cN .u32) (mag b)] (ha:(mag a).length≤100000000) (hb:(mag b).length≤100000000):CallsS Tryz.prog w0 159 [v,o] As (MagR As (a * b)):=by
 have hsa:=Za2 a
 have hsb:=Za2 b
 have hrl:(List.replicate ((mag a).length+(mag b).length) 0).length=(mag a).length+(mag b).length:=List.length_replicate
 refine Zab Tryz.func159 rfl Tryz.ntmps159 rfl ?_
 repeat' first|refine Kz ?_|intro _
 rename_i sv
 refine Tri.loop (ι:=Nat × List Nat) (fun s=>s.1≤(mag a).length∧s.2.length=(mag a).length+(mag b).length∧(∀ x∈s.2,x < 1000000000)∧valB s.2=valB ((mag a).take s.1) * b) (fun s=>(mag a).length - s.1)
  (fun s=>[(1,o),(5,sv),(17,v),(18,.int .i64 (mag a).length),(19,.int .i64 (s.1:Int))]) (fun s=>.ow (cN .u32) 256 sv s.2::As)
  (0,List.replicate ((mag a).length+(mag b).length) 0) ⟨by omega,hrl,Zda _,by simp [Zb9,valB]⟩ Zad Zaa ?_
 rintro ⟨i,xs⟩ ⟨hi,hxl,hxs,hval⟩
 simp only at hi hxl hxs hval
 show Tri _ _ _ _ [(1,o),(5,sv),(17,v),(18,_),(19,.int .i64 (i:Int))] (.ow (cN .u32) 256 sv xs::As) _
 repeat' first|refine Kz ?_|intro _
 (refine Kx (fun hc=>?_) fun hc=>?_)
 ·obtain ⟨d,hd⟩:∃ d,(mag a)[i]?=some d:=⟨_,List.getElem?_eq_getElem (by omega)⟩
  have hd9:=hsa d (List.mem_of_getElem? hd)
  have hta:=Zaw hd
  have hbp:=Zai b
  have hap:valB ((mag a).take i) < 1000000000 ^ i:=by
   have:=Zdi (xs:=(mag a).take i) fun x hx=>hsa x (List.mem_of_mem_take hx)
   rwa [List.length_take,Nat.min_eq_left (by omega)] at this
  have hxz:xs[i+(mag b).length]?=some 0:=by
   obtain ⟨z,hz⟩:∃ z,xs[i+(mag b).length]?=some z:=⟨_,List.getElem?_eq_getElem (by omega)⟩
   rw [Ziv (n:=i+(mag b).length) (by
    rw [hval,Nat.pow_add]
    rcases Nat.eq_zero_or_pos b with h0|h0
    ·rw [h0,Nat.mul_zero];exact Nat.mul_pos (Nat.pow_pos (by omega)) (Nat.pow_pos (by omega))
    ·exact Nat.lt_of_lt_of_le (Nat.mul_lt_mul_of_pos_right hap h0) (Nat.mul_le_mul_left _ (Nat.le_of_lt hbp))) (Nat.le_refl _) hz] at hz
   exact hz
  repeat' first|refine Kz ?_|intro _
  refine Tri.loop (ι:=Nat × List Nat × Nat) (fun s=>s.1≤(mag b).length∧s.2.1.length=(mag a).length+(mag b).length∧(∀ x∈s.2.1,x < 1000000000)∧s.2.2 < 1000000000∧s.2.1[i+(mag b).length]?=some 0∧valB s.2.1+1000000000 ^ (i+s.1) * s.2.2=valB ((mag a).take i) * b+1000000000 ^ i * d * valB ((mag b).take s.1)) (fun s=>(mag b).length - s.1)
   (fun s=>[(1,o),(5,sv),(6,.int .i64 (i:Int)),(7,.int .u32 (d:Int)),(8,.int .u64 (s.2.2:Int)),(17,v),(18,.int .i64 (mag a).length),(19,.int .i64 (i:Int)),(24,o),(25,.int .i64 (mag b).length),(26,.int .i64 (s.1:Int))]) (fun s=>.ow (cN .u32) 256 sv s.2.1::As)
   (0,xs,0) ⟨by omega,hxl,hxs,by simp only;omega,hxz,by simp [valB,hval]⟩ Zad Zaa ?_
  rintro ⟨j,ys,c⟩ ⟨hj,hyl,hys,hc9,hyz,hyv⟩
  simp only at hj hyl hys hc9 hyz hyv
  show Tri _ _ _ _ [(1,o),(5,sv),(6,.int .i64 (i:Int)),(7,.int .u32 (d:Int)),(8,.int .u64 (c:Int)),(17,v),(18,_),(19,.int .i64 (i:Int)),(24,o),(25,_),(26,.int .i64 (j:Int))] (.ow (cN .u32) 256 sv ys::As) _
  repeat' first|refine Kz ?_|intro _
  (refine Kx (fun hc=>?_) fun hc=>?_)
  ·obtain ⟨ee,he⟩:∃ ee,(mag b)[j]?=some ee:=⟨_,List.getElem?_eq_getElem (by omega)⟩
   have he9:=hsb ee (List.mem_of_getElem? he)
   have htb:=Zaw he
   obtain ⟨p,hp⟩:∃ p,ys[i+j]?=some p:=⟨_,List.getElem?_eq_getElem (by omega)⟩
   have hp9:=hys p (List.mem_of_getElem? hp)
   have hlim:=Zmn hd9 he9 hc9 hp9
   have hij:((i:Int)+(j:Int))=((i+j:Nat):Int):=by omega
   have hde:(d:Int) * (ee:Int)=((d * ee:Nat):Int):=(Int.natCast_mul d ee).symm
   repeat' first|refine Kz ?_|intro _
   refine Post.round (j+1,ys.set (i+j) ((c+(p+d * ee)) % 1000000000),(c+(p+d * ee)) / 1000000000) ⟨by simp only;omega,by simpa using hyl,Zax hys (by omega),by simp only;omega,?_,?_⟩ (by simp only;omega) Zad (Ents.refl _)
   ·simp only
    rw [List.getElem?_set_ne (by omega)]
    exact hyz
   ·simp only
    have h1:=Zoh (Zf0 (g:=(c+(p+d * ee)) % 1000000000) hp) (show c+(p+d * ee)=c+p+d * ee by omega) hyv
    rw [show i+(j+1)=(i+j)+1 by omega,Nat.pow_succ,h1,htb,Nat.mul_add,Nat.pow_add,Nat.add_assoc]
    congr 2
    simp only [Nat.mul_assoc,Nat.mul_left_comm]
  ·have hje:j=(mag b).length:=by omega
   subst hje
   rw [Zak (Nat.le_refl _),Za8] at hyv
   repeat' first|refine Kz ?_|intro _
   refine Post.round (i+1,ys.set (i+(mag b).length) c) ⟨by simp only;omega,by simpa using hyl,Zax hys hc9,?_⟩ (by simp only;omega) Zad Zaa
   simp only
   have h1:=Zf0 (g:=c) hyz
   rw [hta,Nat.add_mul]
   omega
 ·have hie:i=(mag a).length:=by omega
  rw [Zak (by omega),Za8] at hval
  repeat' first|refine Kz ?_|intro _
  refine TL.ents Ents.freeze ?_
  refine TL.call rfl rfl rfl (Zdj hxs (by omega)) ?_
  rintro _ _ ⟨p,cap,rfl,rfl⟩
  rw [hval]
  repeat' first|refine Kz ?_|intro _
  (refine Zac ?_)
  exact ⟨_,⟨p,cap,rfl,rfl⟩,Zaa⟩
theorem Zi1 {v:Value} {a d:Nat} [hf:RdIn As v Nat (cN .u32) (mag a)] (ha:(mag a).length≤100000000) (hd0:0 < d) (hd9:d < 4294967296):CallsS Tryz.prog w0 198 [v,.int .u32 (d:Int)] As (ShortR As (a / d) (a % d)):=by
 have hsa:=Za2 a
 have hrl:(List.replicate (mag a).length 0).length=(mag a).length:=List.length_replicate
 refine Zab Tryz.func198 rfl Tryz.ntmps198 rfl ?_
 repeat' first|refine Kz ?_|intro _
 rename_i sv
 refine Tri.loop (ι:=Nat × List Nat × Nat) (fun s=>s.1≤(mag a).length∧s.2.1.length=(mag a).length∧(∀ x∈s.2.1,x < 1000000000)∧s.2.2 < d∧valB (s.2.1.drop s.1) * d+s.2.2=valB ((mag a).drop s.1)) (fun s=>s.1)
  (fun s=>[(0,v),(1,.int .u32 (d:Int)),(6,sv),(7,.int .u64 (s.2.2:Int)),(8,.int .i64 ((s.1:Int) - 1))]) (fun s=>.ow (cN .u32) 256 sv s.2.1::As)
  ((mag a).length,List.replicate (mag a).length 0,0) ⟨Nat.le_refl _,hrl,Zda _,hd0,by simp [valB]⟩ Zad Zaa ?_
 rintro ⟨j,xs,r⟩ ⟨hj,hxl,hxs,hr,hval⟩
 simp only at hj hxl hxs hr hval
 cases j with
 | zero =>
  rw [List.drop_zero,List.drop_zero,Za8] at hval
  obtain ⟨e1,e2⟩:=Zfv hval hr
  show Tri _ _ _ _ [(0,v),(1,.int .u32 (d:Int)),(6,sv),(7,.int .u64 (r:Int)),(8,.int .i64 (((0:Nat):Int) - 1))] (.ow (cN .u32) 256 sv xs::As) _
  rw [show ((0:Nat):Int) - 1=-1 from rfl]
  repeat' first|refine Kz ?_|intro _
  refine TL.ents Ents.freeze ?_
  refine TL.call rfl rfl rfl (Zdj hxs (by omega)) ?_
  rintro _ _ ⟨p,cap,rfl,rfl⟩
  repeat' first|refine Kz ?_|intro _
  (refine Zac ?_)
  rw [e1,e2]
  exact ⟨_,⟨p,cap,rfl,rfl⟩,Zaa⟩
 | succ j =>
  obtain ⟨g,hg⟩:∃ g,(mag a)[j]?=some g:=⟨_,List.getElem?_eq_getElem (by omega)⟩
  have hg9:=hsa g (List.mem_of_getElem? hg)
  have hq9:=Zw7 hr hg9
  have hqr:(r * 1000000000+g) % d < d:=Nat.mod_lt _ hd0
  have hset:(xs.set j ((r * 1000000000+g) / d))[j]?=some ((r * 1000000000+g) / d):=by rw [List.getElem?_set,if_pos rfl,if_pos (by omega)]
  have hnew:valB ((xs.set j ((r * 1000000000+g) / d)).drop j) * d+(r * 1000000000+g) % d=valB ((mag a).drop j):=by
   rw [Zdv hset,Zdv hg,List.drop_set_of_lt (by omega)]
   exact Zoj hval rfl
  have hqe:((r:Int) * 1000000000+g) / (d:Int)=(((r * 1000000000+g) / d:Nat):Int):=by rw [Int.natCast_ediv];rfl
  have hqz:0≤((r:Int) * 1000000000+g) / (d:Int)∧((r:Int) * 1000000000+g) / (d:Int) < 1000000000:=by
   rw [hqe];exact ⟨Int.natCast_nonneg _,Int.ofNat_lt.2 hq9⟩
  have hrz:0≤((r:Int) * 1000000000+g) % (d:Int)∧((r:Int) * 1000000000+g) % (d:Int) < d:=⟨Int.emod_nonneg _ (by omega),Int.emod_lt_of_pos _ (by omega)⟩
  show Tri _ _ _ _ [(0,v),(1,.int .u32 (d:Int)),(6,sv),(7,.int .u64 (r:Int)),(8,.int .i64 (((j+1:Nat):Int) - 1))] (.ow (cN .u32) 256 sv xs::As) _
  rw [show ((j+1:Nat):Int) - 1=(j:Int) by omega]
  repeat' first|refine Kz ?_|intro _
  rw [hqe]
  repeat' first|refine Kz ?_|intro _
  exact Post.round (j,xs.set j ((r * 1000000000+g) / d),(r * 1000000000+g) % d) ⟨by simp only;omega,by simpa using hxl,Zax hxs hq9,hqr,hnew⟩ (by simp only;omega) Zad (Ents.refl _)
end Go.Proofs.YtbfgldlfciimiaaGreatDoor.Q
