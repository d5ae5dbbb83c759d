/- Walks: quotients and remainders of magnitudes. -/
import Derived.Test.YtbfgldlfciimiaaGreatDoorWb1
import Derived.Test.YtbfgldlfciimiaaGreatDoorCb2
set_option maxHeartbeats 1000000
namespace Go.Proofs.YtbfgldlfciimiaaGreatDoor.Q
open Go Go.Sx
variable {w0:World} {As:List Ent}
theorem Zby {v o:Value} {a b:Nat} [hf:FtIn As v Nat (cN .u32) (mag a)] [hg:RdIn As o Nat (cN .u32) (mag b)] (hb0:b≠0) (ha:(mag a).length≤10000000) (hbl:(mag b).length≤100000000):CallsS Tryz.prog w0 158 [v,o] As (DivR As (a / b) (a % b)):=by
 refine Zae v fun pv cv hv=>?_
 have hsa:=Za2 a
 have hsb:=Za2 b
 by_cases hlt:a < b
 ·rw [Nat.div_eq_of_lt hlt,Nat.mod_eq_of_lt hlt]
  subst hv
  have hla:=Zah (Nat.le_of_lt hlt)
  refine Zab Tryz.func158 rfl Tryz.ntmps158 rfl ?_
  repeat' first|refine Kz ?_|intro _
  refine Kt rfl (Zc7 (a:=a) (b:=b) (by omega) hbl) ?_
  have hcmp:Lib.compareInt a b < 0:=Yii.2 hlt
  repeat' first|refine Kz ?_|intro _
  (refine Zac ?_)
  exact ⟨_,⟨none,0,pv,cv,by rw [Zaz];rfl,rfl⟩,by rw [Zaz];exact Ents.trans Ents.dup (Ents.trans (Za3 (T:=256) (cN .u32)) Ents.freeze)⟩
 have hba:b≤a:=by omega
 have hlb:=Zah hba
 have hbl0:(mag b).length≠0:=fun h=>hb0 (Zxq.1 h)
 refine Zab Tryz.func158 rfl Tryz.ntmps158 rfl ?_
 repeat' first|refine Kz ?_|intro _
 refine TL.call rfl rfl rfl (Zc7 (a:=a) (b:=b) (by omega) (by omega)) ?_
 rintro _ As ⟨rfl,rfl⟩
 have hcmp:¬ Lib.compareInt a b < 0:=fun h=>hlt (Yii.1 h)
 repeat' first|refine Kz ?_|intro _
 by_cases h1:(mag b).length=1
 ·obtain ⟨hb9,hbg⟩:=Z27 h1
  repeat' first|refine Kz ?_|intro _
  refine TL.call rfl rfl rfl (Zi1 (a:=a) (d:=b) (by omega) (by omega) (by omega)) ?_
  rintro _ _ ⟨p,cap,rfl,rfl⟩
  have hr9:a % b < b:=Nat.mod_lt _ (by omega)
  repeat' first|refine Kz ?_|intro _
  refine TL.call rfl rfl rfl (Zc6 (n:=a % b) (by omega)) ?_
  rintro _ _ ⟨p',cap',rfl,rfl⟩
  repeat' first|refine Kz ?_|intro _
  (refine Zac ?_)
  exact ⟨_,⟨p,cap,p',cap',rfl,rfl⟩,Zaa⟩
 obtain ⟨m,hm⟩:∃ m,(mag b).length=m+2:=⟨(mag b).length - 2,by omega⟩
 obtain ⟨t,ht⟩:∃ t,(mag b)[(mag b).length - 1]?=some t:=⟨_,List.getElem?_eq_getElem (by omega)⟩
 obtain ⟨g1,g2,g3⟩:=Zb5 ht
 have hlast:b / 1000000000 ^ ((mag b).length - 1+1)=0:=by
  rw [show (mag b).length - 1+1=(mag b).length by omega]
  exact Nat.div_eq_of_lt (Zai b)
 rw [hlast,Nat.mul_zero,Nat.add_zero,show (mag b).length - 1=m+1 by omega] at g1
 rw [show (mag b).length - 1=m+1 by omega,g1] at g2
 have hP:0 < 1000000000 ^ (m+1):=Nat.pow_pos (by omega)
 have hlo:t * 1000000000 ^ (m+1)≤b:=by rw [← g1];exact Nat.div_mul_le_self _ _
 have hhi:b < (t+1) * 1000000000 ^ (m+1):=by rw [← g1,Nat.mul_comm];exact Nat.lt_mul_div_succ b hP
 obtain ⟨hs1,hs2⟩:=Zsg (by omega) g3 hlo hhi
 obtain ⟨_,_,hs3⟩:=Zjz (by omega) g3
 have hs9:1000000000 / (t+1) < 1000000000:=by
  rw [Nat.div_lt_iff_lt_mul (by omega)];omega
 have hqz:(1000000000:Int) / ((t:Int)+1)=((1000000000 / (t+1):Nat):Int):=by rw [Int.natCast_ediv];rfl
 repeat' first|refine Kz ?_|intro _
 rw [hqz]
 generalize 1000000000 / (t+1)=s at hs1 hs2 hs3 hs9 hqz ⊢
 have hmag1:=Zel hs3 hs9
 have hVl:(mag (b * s)).length=m+2:=by
  have e1:=Zdo hs2
  have e2:=Zah (show b≤b * s from Nat.le_mul_of_pos_right _ hs3)
  omega
 have hUl:(mag (a * s)).length≤(mag a).length+1:=by
  have:=Zav a s
  rw [hmag1] at this
  simpa using this
 have hV0:0 < b * s:=Nat.mul_pos (by omega) hs3
 have hfl:∀ {x:Nat},x=s→[Value.int .u32 (x:Int)]=(cN .u32).flat (mag s):=fun h=>by rw [hmag1,h];rfl
 repeat' first|refine Kz ?_|intro _
 refine TL.ents (Zbz (cN .u32) (mag s) (hfl rfl) (by rw [hmag1]) (by rw [hmag1])) ?_
 refine TL.call rfl rfl rfl (Zcy (a:=b) (b:=s) (by omega) (by rw [hmag1];simp)) ?_
 rintro _ _ ⟨pV,cV,rfl,rfl⟩
 have hl1:(((mag a).length:Int)+1)=(((mag a).length+1:Nat):Int):=by omega
 repeat' first|refine Kz ?_|intro _
 rw [hl1]
 repeat' first|refine Kz ?_|intro _
 rename_i uv _
 refine TL.ents (Zbz (cN .u32) (mag s) (hfl rfl) (by rw [hmag1]) (by rw [hmag1])) ?_
 refine TL.call rfl rfl rfl (Zcy (a:=a) (b:=s) (by omega) (by rw [hmag1];simp)) ?_
 rintro _ _ ⟨pU,cU,rfl,rfl⟩
 have hU0:(mag (a * s)).length≤(List.replicate ((mag a).length+1) 0).length:=by rw [List.length_replicate];exact hUl
 refine Zrq rfl rfl (Zns (c:=cN .u32) rfl rfl rfl hU0) ?_
 rintro _ _ ⟨rfl,rfl⟩
 obtain ⟨us0,hus0⟩:∃ us0,us0=mag (a * s)++(List.replicate ((mag a).length+1) 0).drop (mag (a * s)).length:=⟨_,rfl⟩
 rw [← hus0]
 have husl:us0.length=(mag a).length+1:=by rw [hus0];simp;omega
 have husv:valB us0=a * s:=by rw [hus0,List.drop_replicate,Zc0,Zb9,Za8];omega
 have huss:∀ x∈us0,x < 1000000000:=fun x hx=>by
  rw [hus0,List.drop_replicate] at hx
  rcases List.mem_append.1 hx with h|h
  ·exact Za2 _ x h
  ·exact Zda _ x h
 clear hus0
 have hl2:(((mag a).length:Int) - (mag (b * s)).length+1)=(((mag a).length - (mag (b * s)).length+1:Nat):Int):=by omega
 repeat' first|refine Kz ?_|intro _
 rw [hl2]
 repeat' first|refine Kz ?_|intro _
 rename_i qv
 have hVb:1000000000 ^ ((mag (b * s)).length - 1)≤b * s:=Zc5 (by omega)
 have hUV:a * s < 1000000000 ^ ((mag a).length - (mag (b * s)).length+1) * (b * s):=by
  have e1:=Zai a
  have e2:a * s < 1000000000 ^ (mag a).length * s:=Nat.mul_lt_mul_of_pos_right e1 hs3
  have e3:1000000000 ^ (m+1)≤b:=by
   have:=Nat.mul_le_mul_right (1000000000 ^ (m+1)) (show 1≤t by omega)
   omega
  refine Nat.lt_of_lt_of_le e2 ?_
  rw [hVl,show (mag a).length=((mag a).length - (m+2)+1)+(m+1) by omega,Nat.pow_add,show ((mag a).length - (m+2)+1)+(m+1) - (m+2)+1=(mag a).length - (m+2)+1 by omega,Nat.mul_assoc]
  exact Nat.mul_le_mul_left _ (Nat.mul_le_mul_right _ e3)
 have hqr:(List.replicate ((mag a).length - (mag (b * s)).length+1) 0).length=(mag a).length - (mag (b * s)).length+1:=List.length_replicate
 have hdl:valB (us0.drop ((mag a).length - (mag (b * s)).length+1)) < b * s:=by
  have e1:=Zbc us0 ((mag a).length - (mag (b * s)).length+1)
  rw [List.length_take,Nat.min_eq_left (by omega),husv] at e1
  exact Nat.lt_of_mul_lt_mul_left (a:=1000000000 ^ ((mag a).length - (mag (b * s)).length+1)) (by omega)
 refine Tri.loop (ι:=Nat × List Nat × List Nat) (fun x=>x.1≤(mag a).length - (mag (b * s)).length+1∧x.2.1.length=(mag a).length - (mag (b * s)).length+1∧(∀ y∈x.2.1,y < 1000000000)∧x.2.2.length=(mag a).length+1∧(∀ y∈x.2.2,y < 1000000000)∧valB (x.2.2.drop x.1) < b * s∧valB x.2.2+1000000000 ^ x.1 * (b * s * valB (x.2.1.drop x.1))=a * s) (fun x=>x.1)
  (fun x=>[(4,qv),(8,.int .u32 (s:Int)),(9,.slice pV (mag (b * s)).length cV),(10,uv),(11,.int .i64 (mag (b * s)).length),(12,.int .i64 ((x.1:Int) - 1))])
  (fun x=>.ow (cN .u32) 256 qv x.2.1::.ow (cN .u32) 256 uv x.2.2::.ft (rd (cN .u32) (.slice pV (mag (b * s)).length cV) (mag (b * s)))::As)
  ((mag a).length - (mag (b * s)).length+1,List.replicate ((mag a).length - (mag (b * s)).length+1) 0,us0)
  ⟨Nat.le_refl _,hqr,Zda _,husl,huss,hdl,by simp [valB,husv]⟩ (by rw [show (((mag a).length - (mag (b * s)).length+1:Nat):Int) - 1=((mag a).length:Int) - (mag (b * s)).length by omega];(exact Zad)) Zaa ?_
 rintro ⟨j,qs,us⟩ ⟨hj,hql,hqs,hul,hus,hlow,hval⟩
 simp only at hj hql hqs hul hus hlow hval
 cases j with
 | zero =>
  rw [List.drop_zero] at hlow hval
  rw [Nat.pow_zero,Nat.one_mul] at hval
  show Tri _ _ _ _ [(4,qv),(8,.int .u32 (s:Int)),(9,.slice pV (mag (b * s)).length cV),(10,uv),(11,.int .i64 (mag (b * s)).length),(12,.int .i64 (((0:Nat):Int) - 1))] (.ow (cN .u32) 256 qv qs::.ow (cN .u32) 256 uv us::.ft (rd (cN .u32) (.slice pV (mag (b * s)).length cV) (mag (b * s)))::As) _
  rw [show ((0:Nat):Int) - 1=-1 from rfl]
  obtain ⟨k1,k2⟩:=Zfv (a:=a * s) (d:=b * s) (q:=valB qs) (r:=valB us) (by rw [Nat.mul_comm (valB qs)];omega) hlow
  rw [Nat.mul_div_mul_right _ _ (by omega)] at k1
  rw [Nat.mul_mod_mul_right] at k2
  have hut:valB (us.take (mag (b * s)).length)=a % b * s:=by
   have e1:=Zbc us (mag (b * s)).length
   rw [Ziu (k:=(mag (b * s)).length) (Nat.lt_trans hlow (Zai _)),Nat.mul_zero,Nat.add_zero] at e1
   rw [e1,← k2]
  have hlen:(mag (a % b * s)).length≤100000000:=by
   have e1:=Zav (a % b) s
   have e2:=Zah (Nat.mod_le a b)
   rw [hmag1] at e1
   simp at e1
   omega
  repeat' first|refine Kz ?_|intro _
  refine TL.ents Ents.freeze ?_
  rw [show (us.drop 0).take ((mag (b * s)).length - 0)=us.take (mag (b * s)).length by simp]
  refine TL.call rfl rfl rfl (Zdj (xs:=us.take (mag (b * s)).length) (fun x hx=>hus x (List.mem_of_mem_take hx)) (by simp;omega)) ?_
  rintro _ _ ⟨pr,cr,rfl,rfl⟩
  rw [hut]
  repeat' first|refine Kz ?_|intro _
  refine TL.call rfl rfl rfl (Zi1 (a:=a % b * s) (d:=s) hlen (by omega) (by omega)) ?_
  rintro _ _ ⟨pr2,cr2,rfl,rfl⟩
  rw [Nat.mul_div_cancel _ (show 0 < s by omega)]
  repeat' first|refine Kz ?_|intro _
  refine Zhy (.ow (cN .u32) 256 qv qs) ?_
  refine TL.ents Ents.freeze ?_
  refine TL.call rfl rfl rfl (Zdj hqs (by omega)) ?_
  rintro _ _ ⟨pq,cq,rfl,rfl⟩
  rw [← k1]
  repeat' first|refine Kz ?_|intro _
  (refine Zac ?_)
  exact ⟨_,⟨pq,cq,pr2,cr2,rfl,rfl⟩,Zaa⟩
 | succ j =>
  show Tri _ _ _ _ [(4,qv),(8,.int .u32 (s:Int)),(9,.slice pV (mag (b * s)).length cV),(10,uv),(11,.int .i64 (mag (b * s)).length),(12,.int .i64 (((j+1:Nat):Int) - 1))] (.ow (cN .u32) 256 qv qs::.ow (cN .u32) 256 uv us::.ft (rd (cN .u32) (.slice pV (mag (b * s)).length cV) (mag (b * s)))::As) _
  rw [show ((j+1:Nat):Int) - 1=(j:Int) by omega]
  obtain ⟨u,hu⟩:∃ u,us[j]?=some u:=⟨_,List.getElem?_eq_getElem (by omega)⟩
  have hW:valB (us.drop j) < 1000000000 * (b * s):=by
   rw [Zdv hu]
   exact Zye (hus u (List.mem_of_getElem? hu)) hlow
  have hW9:valB (us.drop j) / (b * s) < 1000000000:=Nat.div_lt_of_lt_mul (by rw [Nat.mul_comm];exact hW)
  (repeat' (first|((show TL _ _ _ _ (_::_) _ _ _;first|refine Ze1 ?_|refine Zey ?_|(refine Zcn ?_;intro _)|refine Zbp ?_|refine Zbb ?_|refine Ze0 ?_|fail))|(refine Stp.h ?_)|((show Tri _ _ _ (.cond _ _ _) _ _ _;first|refine Zbn ?_|refine Zbo ?_|refine Zat ?_|refine Zau ?_|refine Zap ?_|refine Zaq ?_|fail))))
  refine TL.f rfl rfl (Zds (lo:=j) (hi:=j+(mag (b * s)).length+1) rfl (Zev rfl) (Zfh rfl) (by omega) (by omega)) ?_
  (repeat' (first|((show TL _ _ _ _ (_::_) _ _ _;first|refine Ze1 ?_|refine Zey ?_|(refine Zcn ?_;intro _)|refine Zbp ?_|refine Zbb ?_|refine Ze0 ?_|fail))|(refine Stp.h ?_)|((show Tri _ _ _ (.cond _ _ _) _ _ _;first|refine Zbn ?_|refine Zbo ?_|refine Zat ?_|refine Zau ?_|refine Zap ?_|refine Zaq ?_|fail))))
  refine Zhy (.ow (cN .u32) 256 uv us) ?_
  refine TL.call rfl rfl rfl (Zmd (us:=us) (b:=b * s) (lo:=j) hVl (by omega) (by omega) hus (by exact hs1) hW) ?_
  rintro _ _ ⟨us',rfl,hul',hus',hlow',ht',rfl⟩
  repeat' first|refine Kz ?_|intro _
  refine Post.round (j,qs.set j (valB (us.drop j) / (b * s)),us') ⟨by simp only;omega,by simpa using hql,Zax hqs hW9,by simp only;omega,hus',?_,?_⟩ (by simp only;omega) Zad Zaa
  ·simp only
   rw [hlow']
   exact Nat.mod_lt _ hV0
  ·simp only
   have e1:=Zbc us j
   have e2:=Zbc us' j
   have hset:(qs.set j (valB (us.drop j) / (b * s)))[j]?=some (valB (us.drop j) / (b * s)):=by rw [List.getElem?_set,if_pos rfl,if_pos (by omega)]
   rw [List.length_take,Nat.min_eq_left (by omega)] at e1
   rw [List.length_take,Nat.min_eq_left (by omega),ht',hlow'] at e2
   rw [Zdv hset,List.drop_set_of_lt (by omega),← e2]
   rw [← e1,Nat.pow_succ] at hval
   exact Zyc hval
end Go.Proofs.YtbfgldlfciimiaaGreatDoor.Q
