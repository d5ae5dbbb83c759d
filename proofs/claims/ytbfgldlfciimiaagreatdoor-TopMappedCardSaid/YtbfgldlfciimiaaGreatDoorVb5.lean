/- Walks: the reference on whole numbers: quotients of lists of digits. -/
import Derived.Test.YtbfgldlfciimiaaGreatDoorVb1
set_option maxHeartbeats 1000000
namespace Go.Sx
open Go
theorem Zi5 {a b:Nat} (h:(qud a).length < (qud b).length):a < b:=by
 have hb:b≠0:=fun h0=>by rw [h0,Zbh] at h;simp at h
 have h1:=Zbi a
 have h2:=Zei hb
 have:=Nat.pow_le_pow_right (n:=10000) (by omega) (show (qud a).length≤(qud b).length - 1 by omega)
 omega
theorem Yae {b:Nat} (h:(qud b).length=1):b < 10000∧(qud b)[0]?=some b:=by
 have h1:=Zbi b
 rw [h,Nat.pow_one] at h1
 refine ⟨h1,?_⟩
 have hb:b≠0:=fun h0=>by rw [h0,Zbh] at h;cases h
 rw [Zgw hb,List.getElem?_cons_zero,Nat.mod_eq_of_lt h1]
theorem Zzf {d r g:Nat} (hr:r < d) (hg:g < 10000):(r * 10000+g) / d < 10000:=by
 rw [Nat.div_lt_iff_lt_mul (by omega)]
 have:(r+1) * 10000≤d * 10000:=Nat.mul_le_mul_right _ hr
 rw [Nat.mul_comm 10000 d]
 omega
theorem Zvv {b T K b' W F:Nat} (hb:b=T * K+b') (hb':b' < K) (hF:F=W / K) (hT:0 < T):F / (T+1)≤W / b∧W / b < F / T+1:=by
 have hK:0 < K:=by omega
 have hb0:0 < b:=by have:=Nat.mul_pos hT hK;omega
 have h1:F * K≤W:=by rw [hF];exact Nat.div_mul_le_self W K
 have h2:W < (F+1) * K:=by rw [hF,Nat.mul_comm];exact Nat.lt_mul_div_succ W hK
 constructor
 ·rw [Nat.le_div_iff_mul_le hb0]
  calc F / (T+1) * b≤F / (T+1) * ((T+1) * K):=Nat.mul_le_mul_left _ (by rw [hb,Nat.succ_mul];omega)
   _=F / (T+1) * (T+1) * K:=by rw [Nat.mul_assoc]
   _≤F * K:=Nat.mul_le_mul_right _ (Nat.div_mul_le_self _ _)
   _≤W:=h1
 ·apply Nat.lt_succ_of_le
  rw [Nat.le_div_iff_mul_le hT]
  have h3:W / b * b≤W:=Nat.div_mul_le_self W b
  have h4:W / b * T * K < (F+1) * K:=by
   refine Nat.lt_of_le_of_lt ?_ h2
   refine Nat.le_trans ?_ h3
   rw [Nat.mul_assoc]
   exact Nat.mul_le_mul_left _ (by rw [hb];omega)
  exact Nat.le_of_lt_succ (Nat.lt_of_mul_lt_mul_right h4)
theorem Z3m {b T K b' W F:Nat} (hb:b=T * K+b') (hb':b' < K) (hF:F=W / K) (hT:10000≤T) (hW:W < 10000 * b):F / T+1≤10001:=by
 have hK:0 < K:=by omega
 have h1:F * K≤W:=by rw [hF];exact Nat.div_mul_le_self W K
 have h2:F < 10000 * (T+1):=by
  have h3:F * K < 10000 * (T+1) * K:=by
   refine Nat.lt_of_le_of_lt h1 (Nat.lt_of_lt_of_le hW ?_)
   rw [Nat.mul_assoc]
   exact Nat.mul_le_mul_left _ (by rw [hb,Nat.succ_mul];omega)
  exact Nat.lt_of_mul_lt_mul_right h3
 have h3:F / T < 10001:=by
  rw [Nat.div_lt_iff_lt_mul (by omega)]
  omega
 omega
theorem Z15 {a b i d Q R:Nat} (hb:0 < b) (ha:a / 10000 ^ i=d+10000 * (a / 10000 ^ (i+1))) (hQ:Q=a / 10000 ^ (i+1) / b) (hR:R=a / 10000 ^ (i+1) % b):a / 10000 ^ i / b=(d+10000 * R) / b+10000 * Q∧a / 10000 ^ i % b=(d+10000 * R) % b:=by
 have h1:=Nat.div_add_mod (a / 10000 ^ (i+1)) b
 rw [← hQ,← hR] at h1
 have h2:a / 10000 ^ i=(d+10000 * R)+b * (10000 * Q):=by
  rw [ha,← h1,Nat.mul_add,Nat.mul_left_comm]
  omega
 rw [h2,Nat.add_mul_div_left _ _ hb,Nat.add_mul_mod_self_left]
 exact ⟨rfl,rfl⟩
theorem Zz4 {W k F:Nat} (hF:F=W / 10000 ^ (k+1)):(∀ d,(qud W)[k]?=some d→F * 10000+d=W / 10000 ^ k)∧((qud W).length≤k→F * 10000=W / 10000 ^ k):=by
 refine ⟨fun d hd=>by have:=(Zj0 hd).1;omega,fun hk=>?_⟩
 have h1:=Nat.lt_of_lt_of_le (Zbi W) (Nat.pow_le_pow_right (n:=10000) (by omega) hk)
 have h2:=Nat.lt_of_lt_of_le h1 (Nat.pow_le_pow_right (n:=10000) (by omega) (show k≤k+1 by omega))
 rw [hF,Nat.div_eq_of_lt h1,Nat.div_eq_of_lt h2]
theorem Z3u {b m t0 t1:Nat} (hm:(qud b).length=m+2) (h0:(qud b)[m]?=some t0) (h1:(qud b)[m+1]?=some t1):t1 * 10000+t0=b / 10000 ^ m∧0 < t1:=by
 have e0:=(Zj0 h0).1
 obtain ⟨e1,e2,_⟩:=Zj0 h1
 have h2:=Zbi b
 rw [hm] at h2
 rw [Nat.div_eq_of_lt h2] at e1
 omega
theorem Zvz {W m k:Nat} (h:W < 10000 ^ (m+3)) (hk:m≤k):W / 10000 ^ (k+1) < 100000000:=by
 refine Nat.lt_of_le_of_lt (Nat.div_le_div_left (Nat.pow_le_pow_right (by omega) (show m+1≤k+1 by omega)) (Nat.pow_pos (by omega))) ?_
 rw [Nat.div_lt_iff_lt_mul (Nat.pow_pos (by omega))]
 rw [show m+3=(m+1)+2 by omega,Nat.pow_add] at h
 omega
end Go.Sx
namespace Go.Proofs.YtbfgldlfciimiaaGreatDoor
open Go Go.Sx
variable {w0:World} {As:List Ent}
def OnceR (As:List Ent) (q r:Nat) (u:Value) (Bs:List Ent):Prop:=∃ p cap,u=.tuple #[.slice p (qud q).length cap,.int .i64 (r:Int)]∧Bs=.ft (rd (cN .i64) (.slice p (qud q).length cap) (qud q))::As
theorem Z6x {v:Value} {a d:Nat} [hf:RdIn As v Nat (cN .i64) (qud a)] (ha:(qud a).length≤100000000) (hd0:0 < d) (hd9:d < 10000):CallsS Tryz.prog w0 209 [v,.int .i64 (d:Int)] As (OnceR As (a / d) (a % d)):=by
 have hsa:=Za4 a
 have hrl:(List.replicate (qud a).length 0).length=(qud a).length:=List.length_replicate
 refine Zab Tryz.func209 rfl Tryz.ntmps209 rfl ?_
 repeat' first|refine Kz ?_|intro _
 rename_i sv
 refine Tri.loop (ι:=Nat × List Nat × Nat) (fun s=>s.1≤(qud a).length∧s.2.1.length=(qud a).length∧(∀ x∈s.2.1,x < 10000)∧s.2.2 < d∧valQ (s.2.1.drop s.1) * d+s.2.2=valQ ((qud a).drop s.1)) (fun s=>s.1)
  (fun s=>[(0,v),(1,.int .i64 (d:Int)),(6,sv),(7,.int .i64 (s.2.2:Int)),(8,.int .i64 ((s.1:Int) - 1))]) (fun s=>.ow (cN .i64) 3 sv s.2.1::As)
  ((qud a).length,List.replicate (qud a).length 0,0) ⟨Nat.le_refl _,hrl,Zjx _,hd0,by simp [valQ]⟩ Zad Zaa ?_
 rintro ⟨j,xs,r⟩ ⟨hj,hxl,hxs,hr,hval⟩
 simp only at hj hxl hxs hr hval
 cases j with
 | zero =>
  rw [List.drop_zero,List.drop_zero,Za0] at hval
  obtain ⟨e1,e2⟩:=Zfv hval hr
  show Tri _ _ _ _ [(0,v),(1,.int .i64 (d:Int)),(6,sv),(7,.int .i64 (r:Int)),(8,.int .i64 (((0:Nat):Int) - 1))] (.ow (cN .i64) 3 sv xs::As) _
  rw [show ((0:Nat):Int) - 1=-1 from rfl]
  repeat' first|refine Kz ?_|intro _
  refine TL.ents Ents.freeze ?_
  refine TL.call rfl rfl rfl (Zkz hxs (by omega)) ?_
  rintro _ _ ⟨p,cap,rfl,rfl⟩
  repeat' first|refine Kz ?_|intro _
  (refine Zac ?_)
  rw [e1,e2]
  exact ⟨_,⟨p,cap,rfl,rfl⟩,Zaa⟩
 | succ j =>
  obtain ⟨g,hg⟩:∃ g,(qud a)[j]?=some g:=⟨_,List.getElem?_eq_getElem (by omega)⟩
  have hg9:=hsa g (List.mem_of_getElem? hg)
  have hq9:=Zzf hr hg9
  have hqr:(r * 10000+g) % d < d:=Nat.mod_lt _ hd0
  have hset:(xs.set j ((r * 10000+g) / d))[j]?=some ((r * 10000+g) / d):=by rw [List.getElem?_set,if_pos rfl,if_pos (by omega)]
  have hnew:valQ ((xs.set j ((r * 10000+g) / d)).drop j) * d+(r * 10000+g) % d=valQ ((qud a).drop j):=by
   rw [Zl0 hset,Zl0 hg,List.drop_set_of_lt (by omega)]
   exact Zuu hval rfl
  have hqe:((r:Int) * 10000+g) / (d:Int)=(((r * 10000+g) / d:Nat):Int):=by rw [Int.natCast_ediv];rfl
  show Tri _ _ _ _ [(0,v),(1,.int .i64 (d:Int)),(6,sv),(7,.int .i64 (r:Int)),(8,.int .i64 (((j+1:Nat):Int) - 1))] (.ow (cN .i64) 3 sv xs::As) _
  rw [show ((j+1:Nat):Int) - 1=(j:Int) by omega]
  repeat' first|refine Kz ?_|intro _
  rw [hqe]
  repeat' first|refine Kz ?_|intro _
  exact Post.round (j,xs.set j ((r * 10000+g) / d),(r * 10000+g) % d) ⟨by simp only;omega,by simpa using hxl,Zhd hxs hq9,hqr,hnew⟩ (by simp only;omega) Zad (Ents.refl _)
def DivQ (As:List Ent) (q r:Nat) (u:Value) (Bs:List Ent):Prop:=∃ p cap p' cap',u=.tuple #[.slice p (qud q).length cap,.slice p' (qud r).length cap']∧Bs=.ft (rd (cN .i64) (.slice p (qud q).length cap) (qud q))::.ft (rd (cN .i64) (.slice p' (qud r).length cap') (qud r))::As
theorem Zsu {v o:Value} {a b:Nat} [hf:RdIn As v Nat (cN .i64) (qud a)] [hg:RdIn As o Nat (cN .i64) (qud b)] (hb0:b≠0) (ha:(qud a).length≤1000000) (hbl:(qud b).length≤1000000):CallsS Tryz.prog w0 172 [v,o] As (DivQ As (a / b) (a % b)):=by
 have hsa:=Za4 a
 have hsb:=Za4 b
 have hbl0:(qud b).length≠0:=fun h=>hb0 (Zxh.1 h)
 refine Zab Tryz.func172 rfl Tryz.ntmps172 rfl ?_
 repeat' first|refine Kz ?_|intro _
 by_cases h1:(qud b).length=1
 ·obtain ⟨hb9,hbg⟩:=Yae h1
  have hr9:a % b < b:=Nat.mod_lt _ (by omega)
  repeat' first|refine Kz ?_|intro _
  refine TL.call rfl rfl rfl (Z6x (a:=a) (d:=b) (by omega) (by omega) hb9) ?_
  rintro _ _ ⟨p,cap,rfl,rfl⟩
  repeat' first|refine Kz ?_|intro _
  refine TL.ents (Zbz (n:=1) (cap:=1) (cN .i64) [a % b] rfl rfl rfl) ?_
  refine TL.ents Ents.freeze ?_
  refine TL.call rfl rfl rfl (Zkz (xs:=[a % b]) (fun x hx=>by rw [List.mem_singleton.1 hx];omega) (by simp)) ?_
  rintro _ _ ⟨p',cap',rfl,rfl⟩
  rw [show valQ [a % b]=a % b by simp [valQ]]
  repeat' first|refine Kz ?_|intro _
  (refine Zac ?_)
  exact ⟨_,⟨p,cap,p',cap',rfl,rfl⟩,Zaa⟩
 obtain ⟨m,hm⟩:∃ m,(qud b).length=m+2:=⟨(qud b).length - 2,by omega⟩
 repeat' first|refine Kz ?_|intro _
 by_cases hlt:(qud a).length≤(qud b).length - 1
 ·have hab:a < b:=Zi5 (by omega)
  rw [Nat.div_eq_of_lt hab,Nat.mod_eq_of_lt hab]
  repeat' first|refine Kz ?_|intro _
  rename_i sv
  refine Zjs (c:=cN .i64) (xs:=qud a) sv ?_
  rintro p cap rfl
  refine Zkh Ents.freeze ?_
  refine Zkh (Za3 (T:=3) (cN .i64)) ?_
  refine Zkh Ents.freeze ?_
  (refine Zac ?_)
  exact ⟨_,⟨none,0,p,cap,by rw [Zbh];rfl,by rw [Zbh]⟩,Zaa⟩
 obtain ⟨t0,ht0⟩:∃ g,(qud b)[m]?=some g:=⟨_,List.getElem?_eq_getElem (by omega)⟩
 obtain ⟨t1,ht1⟩:∃ g,(qud b)[m+1]?=some g:=⟨_,List.getElem?_eq_getElem (by omega)⟩
 have ht09:=hsb t0 (List.mem_of_getElem? ht0)
 have ht19:=hsb t1 (List.mem_of_getElem? ht1)
 rw [show (((qud b).length - 1:Nat):Int)=((m+1:Nat):Int) by omega]
 repeat' first|refine Kz ?_|intro _
 refine Zam (.take 0 (.take 1 (.take 2 (.take 3 (.take 4 (.take 5 (.take 6 (.take 7 (.take 8 (.take 9 (.take 10 (.take 11 (.done))))))))))))) ?_
 obtain ⟨hTd,ht1p⟩:=Z3u hm ht0 ht1
 obtain ⟨N,hN⟩:∃ N,(qud a).length=N+(m+1):=⟨(qud a).length - (m+1),by omega⟩
 obtain ⟨T,hT⟩:∃ T,T=t1 * 10000+t0:=⟨_,rfl⟩
 have hrl:(List.replicate N 0).length=N:=List.length_replicate
 repeat' first|refine Kf ?_|intro _|constructor
 rw [show (t1:Int) * 10000+(t0:Int)=(T:Int) by omega,show ((qud a).length:Int) - ((m+1:Nat):Int)=(N:Int) by omega]
 repeat' first|refine Kf ?_|intro _|constructor
 rw [show ((qud a).length:Int) - ((m+1:Nat):Int)=(N:Int) by omega]
 repeat' first|refine Kf ?_|intro _|constructor
 refine TL.f rfl rfl (Zds (lo:=N) rfl (Zev rfl) Zmz (by omega) (Nat.le_refl _)) ?_
 have hdn:(qud a).drop N=qud (a / 10000 ^ N):=Zp8 a N
 haveI hsub:RdIn As (subV 1 v N (qud a).length) Nat (cN .i64) (qud (a / 10000 ^ N)):=by rw [← hdn];exact Z48 rfl rfl (by omega)
 have hdl:(qud (a / 10000 ^ N)).length=m+1:=by rw [← hdn,List.length_drop];omega
 have hbN:a / 10000 ^ N < b:=Zi5 (by rw [hdl];omega)
 repeat' first|refine Kz ?_|intro _
 rename_i sv bb rv
 rw [show (((List.replicate N 0).length - 1:Nat):Int)=(N:Int) - 1 by omega]
 refine Tri.loop (ι:=Nat × List Nat × Value) (fun s=>s.1≤N∧s.2.1.length=N∧(∀ x∈s.2.1,x < 10000)∧valQ (s.2.1.drop s.1)=a / 10000 ^ s.1 / b) (fun s=>s.1)
  (fun s=>[(0,v),(1,o),(8,.int .i64 ((m+1:Nat):Int)),(9,.int .i64 (T:Int)),(10,sv),(11,s.2.2),(12,.int .i64 ((s.1:Int) - 1))])
  (fun s=>.ft (rd (cN .i64) s.2.2 (qud (a / 10000 ^ s.1 % b)))::.ow (cN .i64) 3 sv s.2.1::As)
  (N,List.replicate N 0,rv) ⟨Nat.le_refl _,hrl,Zjx _,by rw [List.drop_of_length_le (by rw [hrl];exact Nat.le_refl _),Nat.div_eq_of_lt hbN];rfl⟩ Zad
  (by simp only;rw [Nat.mod_eq_of_lt hbN];exact Ents.trans Ents.freeze Zaa) ?_
 rintro ⟨j,xs,rv⟩ ⟨hj,hxl,hxs,hval⟩
 simp only at hj hxl hxs hval
 cases j with
 | zero =>
  rw [List.drop_zero,Nat.pow_zero,Nat.div_one] at hval
  show Tri _ _ _ _ [(0,v),(1,o),(8,.int .i64 ((m+1:Nat):Int)),(9,.int .i64 (T:Int)),(10,sv),(11,rv),(12,.int .i64 (((0:Nat):Int) - 1))] (.ft (rd (cN .i64) rv (qud (a / 10000 ^ 0 % b)))::.ow (cN .i64) 3 sv xs::As) _
  rw [Nat.pow_zero,Nat.div_one,show ((0:Nat):Int) - 1=-1 from rfl]
  refine Zdb (c:=cN .i64) (xs:=qud (a % b)) rv ?_
  rintro p' cap' rfl
  repeat' first|refine Kz ?_|intro _
  refine TL.ents (Ents.trans (Ents.perm (List.Perm.swap _ _ _)) Ents.freeze) ?_
  refine TL.call rfl rfl rfl (Zkz hxs (by omega)) ?_
  rintro _ _ ⟨p,cap,rfl,rfl⟩
  rw [hval]
  repeat' first|refine Kz ?_|intro _
  (refine Zac ?_)
  exact ⟨_,⟨p,cap,p',cap',rfl,rfl⟩,Zaa⟩
 | succ j =>
  obtain ⟨d,hd⟩:∃ d,(qud a)[j]?=some d:=⟨_,List.getElem?_eq_getElem (by omega)⟩
  have hd9:=hsa d (List.mem_of_getElem? hd)
  obtain ⟨R,hR⟩:∃ R,R=a / 10000 ^ (j+1) % b:=⟨_,rfl⟩
  have hRb:R < b:=by rw [hR];exact Nat.mod_lt _ (by omega)
  have hRl:=Zcb (Nat.le_of_lt hRb)
  have hsr:=Za4 R
  obtain ⟨hstep1,hstep2⟩:=Z15 (i:=j) (Q:=a / 10000 ^ (j+1) / b) (by omega) (Zj0 hd).1 rfl hR
  show Tri _ _ _ _ [(0,v),(1,o),(8,.int .i64 ((m+1:Nat):Int)),(9,.int .i64 (T:Int)),(10,sv),(11,rv),(12,.int .i64 (((j+1:Nat):Int) - 1))] (.ft (rd (cN .i64) rv (qud (a / 10000 ^ (j+1) % b)))::.ow (cN .i64) 3 sv xs::As) _
  rw [← hR,show ((j+1:Nat):Int) - 1=(j:Int) by omega]
  repeat' first|refine Kz ?_|intro _
  refine TL.ents (Zbz (n:=1) (cap:=1) (cN .i64) [d] rfl rfl rfl) ?_
  repeat' first|refine Kz ?_|intro _
  refine TL.ents Ents.freeze ?_
  refine TL.call rfl rfl rfl (Zkz (xs:=[d]++qud R) (fun x hx=>by rcases List.mem_append.1 hx with h|h;(rw [List.mem_singleton.1 h];exact hd9);exact hsr x h) (by simp only [List.length_append,List.length_singleton];omega)) ?_
  rintro _ _ ⟨pw,cw,rfl,rfl⟩
  rw [show valQ ([d]++qud R)=d+10000 * R by rw [Zcg,Za0];simp [valQ]]
  obtain ⟨W,hW⟩:∃ W,W=d+10000 * R:=⟨_,rfl⟩
  rw [← hW] at hstep1 hstep2 ⊢
  have hWb:W < 10000 * b:=by omega
  have hbp:=Zbi b
  rw [hm] at hbp
  have hW3:W < 10000 ^ (m+3):=by rw [show m+3=(m+2)+1 by omega,Nat.pow_succ];omega
  have hWl:=Zbj hW3
  repeat' first|refine Kz ?_|intro _
  refine Tri.loop (ι:=Nat × Nat) (fun s=>m≤s.1∧s.1≤m+3∧s.2=W / 10000 ^ s.1) (fun s=>s.1)
   (fun s=>[(0,v),(1,o),(8,.int .i64 ((m+1:Nat):Int)),(9,.int .i64 (T:Int)),(10,sv),(11,.slice pw (qud W).length cw),(12,.int .i64 (j:Int)),(13,.int .i64 (s.2:Int)),(14,.int .i64 ((s.1:Int) - 1))])
   (fun _=>.ft (rd (cN .i64) (.slice pw (qud W).length cw) (qud W))::.ow (cN .i64) 3 sv xs::As)
   (m+3,0) ⟨by simp only;omega,by simp only;omega,by rw [Nat.div_eq_of_lt hW3]⟩ (by rw [show ((m+1:Nat):Int)+1=((m+3:Nat):Int) - 1 by omega];(exact Zad)) Zaa ?_
  rintro ⟨k,F⟩ ⟨hk1,hk2,hF⟩
  simp only at hk1 hk2 hF
  show Tri _ _ _ _ [(0,v),(1,o),(8,.int .i64 ((m+1:Nat):Int)),(9,.int .i64 (T:Int)),(10,sv),(11,.slice pw (qud W).length cw),(12,.int .i64 (j:Int)),(13,.int .i64 (F:Int)),(14,.int .i64 ((k:Int) - 1))] (.ft (rd (cN .i64) (.slice pw (qud W).length cw) (qud W))::.ow (cN .i64) 3 sv xs::As) _
  by_cases hkm:k=m
  ·rw [hkm] at hF ⊢
   have hTe:T=b / 10000 ^ m:=by rw [hT,hTd]
   have hbT:b=T * 10000 ^ m+b % 10000 ^ m:=by rw [hTe];exact (Nat.div_add_mod' b (10000 ^ m)).symm
   have hbm:b % 10000 ^ m < 10000 ^ m:=Nat.mod_lt _ (Nat.pow_pos (by omega))
   obtain ⟨hlo,hhi⟩:=Zvv hbT hbm hF (by omega)
   have hhi9:=Z3m hbT hbm hF (by omega) hWb
   obtain ⟨Q,hQ⟩:∃ Q,Q=W / b:=⟨_,rfl⟩
   rw [← hQ] at hlo hhi hstep1
   obtain ⟨lo,hloe⟩:∃ lo,lo=F / (T+1):=⟨_,rfl⟩
   obtain ⟨hi,hhie⟩:∃ hi,hi=F / T:=⟨_,rfl⟩
   rw [← hloe] at hlo
   rw [← hhie] at hhi hhi9
   have hF12:F < 1000000000000:=by
    rw [hF,Nat.div_lt_iff_lt_mul (Nat.pow_pos (by omega))]
    rw [Nat.pow_add] at hW3
    omega
   have e1:(F:Int) / ((T:Int)+1)=(lo:Int):=by rw [hloe,Int.natCast_ediv];rfl
   have e2:(F:Int) / (T:Int)=(hi:Int):=by rw [hhie,Int.natCast_ediv]
   have hQ9:Q < 10000:=by rw [hQ,Nat.div_lt_iff_lt_mul (by omega)];exact hWb
   repeat' first|refine Kz ?_|intro _
   refine Zam (.take 0 (.take 1 (.take 2 (.take 3 (.take 4 (.take 5 (.take 6 (.take 7 (.take 8 (.take 9 (.done))))))))))) ?_
   repeat' first|refine Kf ?_|intro _|constructor
   rw [e1,e2]
   refine Tri.loop (ι:=Nat × Nat) (fun s=>s.1≤Q∧Q < s.2∧s.2≤10001) (fun s=>s.2 - s.1)
    (fun s=>[(0,v),(1,o),(8,.int .i64 ((m+1:Nat):Int)),(9,.int .i64 (T:Int)),(10,sv),(11,.slice pw (qud W).length cw),(12,.int .i64 (j:Int)),(15,.int .i64 (s.1:Int)),(16,.int .i64 (s.2:Int))])
    (fun _=>.ft (rd (cN .i64) (.slice pw (qud W).length cw) (qud W))::.ow (cN .i64) 3 sv xs::As)
    (lo,hi+1) ⟨hlo,hhi,hhi9⟩ Zad Zaa ?_
   clear hloe hhie hlo hhi hhi9 e1 e2 hF hF12
   rintro ⟨lo,hi⟩ ⟨hlo,hhi,hhi9⟩
   simp only at hlo hhi hhi9
   show Tri _ _ _ _ [(0,v),(1,o),(8,.int .i64 ((m+1:Nat):Int)),(9,.int .i64 (T:Int)),(10,sv),(11,.slice pw (qud W).length cw),(12,.int .i64 (j:Int)),(15,.int .i64 (lo:Int)),(16,.int .i64 (hi:Int))] (.ft (rd (cN .i64) (.slice pw (qud W).length cw) (qud W))::.ow (cN .i64) 3 sv xs::As) _
   repeat' first|refine Kz ?_|intro _
   by_cases hgap:1 < hi - lo
   ·obtain ⟨M,hM⟩:∃ M,M=(lo+hi) / 2:=⟨_,rfl⟩
    have hM1:lo < M:=by omega
    have hM2:M < hi:=by omega
    have hpl:=Zf7 b M
    have hMl:(qud M).length≤2:=Zbj (by omega)
    repeat' first|refine Kz ?_|intro _
    rw [show ((lo:Int)+(hi:Int)) / 2=(M:Int) by omega]
    repeat' first|refine Kz ?_|intro _
    refine TL.ents (Zbz (n:=1) (cap:=1) (cN .i64) [M] rfl rfl rfl) ?_
    refine TL.ents Ents.freeze ?_
    refine TL.call rfl rfl rfl (Zij (xs:=qud b) (ys:=[M]) hsb (fun y hy=>by rw [List.mem_singleton.1 hy];omega) (by simp [valQ];omega) (by omega) (by simp)) ?_
    rintro _ _ ⟨pp,cp,rfl,rfl⟩
    rw [Za0,show valQ [M]=M by simp [valQ]]
    repeat' first|refine Kz ?_|intro _
    refine TL.call rfl rfl rfl (Zkz (xs:=qud (b * M)) (Za4 _) (by omega)) ?_
    rintro _ _ ⟨pq,cq,rfl,rfl⟩
    rw [Za0]
    repeat' first|refine Kz ?_|intro _
    refine TL.call rfl rfl rfl (Zsx (a:=b * M) (b:=W) (by omega) (by omega)) ?_
    rintro _ _ ⟨r,rfl,hr,rfl⟩
    repeat' first|refine Kz ?_|intro _
    by_cases hr0:r≤0
    ·have hMQ:M≤Q:=by rw [hQ,Nat.le_div_iff_mul_le (by omega),Nat.mul_comm];omega
     repeat' first|refine Kz ?_|intro _
     exact Post.round (M,hi) ⟨hMQ,hhi,hhi9⟩ (by simp only;omega) Zad Zaa
    ·have hMQ:Q < M:=by rw [hQ,Nat.div_lt_iff_lt_mul (by omega),Nat.mul_comm];omega
     repeat' first|refine Kz ?_|intro _
     exact Post.round (lo,M) ⟨hlo,hMQ,by simp only;omega⟩ (by simp only;omega) Zad Zaa
   obtain rfl:lo=Q:=by omega
   have hbq:b * lo≤W:=by rw [hQ];exact Nat.mul_div_le W b
   have hrest:W - b * lo=a / 10000 ^ j % b:=by rw [hstep2,hQ,Nat.mod_eq_sub_mul_div]
   have hset:(xs.set j lo)[j]?=some lo:=by rw [List.getElem?_set,if_pos rfl,if_pos (by omega)]
   have hnew:valQ ((xs.set j lo).drop j)=a / 10000 ^ j / b:=by rw [Zl0 hset,List.drop_set_of_lt (by omega),hval,hstep1]
   repeat' first|refine Kz ?_|intro _
   refine TL.ents (Zbz (n:=1) (cap:=1) (cN .i64) [lo] rfl rfl rfl) ?_
   refine TL.ents Ents.freeze ?_
   refine TL.call rfl rfl rfl (Zij (xs:=qud b) (ys:=[lo]) hsb (fun y hy=>by rw [List.mem_singleton.1 hy];omega) (by simp [valQ];omega) (by omega) (by simp)) ?_
   rintro _ _ ⟨pp,cp,rfl,rfl⟩
   rw [Za0,show valQ [lo]=lo by simp [valQ]]
   repeat' first|refine Kz ?_|intro _
   refine TL.call rfl rfl rfl (Zfi (a:=W) (b:=b * lo) hbq (by omega)) ?_
   rintro _ _ ⟨pr,cr,rfl,rfl⟩
   rw [hrest]
   repeat' first|refine Kz ?_|intro _
   exact Post.round (j,xs.set j lo,.slice pr (qud (a / 10000 ^ j % b)).length cr) ⟨by simp only;omega,by simpa using hxl,Zhd hxs hQ9,hnew⟩ (by simp only;omega) Zad Zaa
  obtain ⟨k,rfl⟩:∃ k',k=k'+1:=⟨k - 1,by omega⟩
  rw [show ((k+1:Nat):Int) - 1=(k:Int) by omega]
  have hF8:=Zvz hW3 (show m≤k by omega)
  rw [← hF] at hF8
  obtain ⟨hfs,hfz⟩:=Zz4 hF
  repeat' first|refine Kz ?_|intro _
  by_cases hkl:k < (qud W).length
  ·obtain ⟨g,hg⟩:∃ g,(qud W)[k]?=some g:=⟨_,List.getElem?_eq_getElem hkl⟩
   have hg9:=Za4 W g (List.mem_of_getElem? hg)
   repeat' first|refine Kz ?_|intro _
   rw [show (F:Int) * 10000+(g:Int)=((F * 10000+g:Nat):Int) by omega]
   exact Post.round (k,F * 10000+g) ⟨by simp only;omega,by simp only;omega,hfs g hg⟩ (by simp only;omega) Zad Zaa
  ·repeat' first|refine Kz ?_|intro _
   rw [show (F:Int) * 10000=((F * 10000:Nat):Int) by omega]
   exact Post.round (k,F * 10000) ⟨by simp only;omega,by simp only;omega,hfz (by omega)⟩ (by simp only;omega) Zad Zaa
end Go.Proofs.YtbfgldlfciimiaaGreatDoor
namespace Go.Sx
open Go
theorem Zu9 {x y:Int} (hy:y≠0):∃ X Y:Int,X.natAbs=x.natAbs / y.natAbs∧decide (X < 0)=(!decide (decide (x < 0)=decide (y < 0))&&decide (x.natAbs / y.natAbs≠0)) ∧
  Y.natAbs=x.natAbs % y.natAbs∧decide (Y < 0)=(decide (x < 0)&&decide (x.natAbs % y.natAbs≠0)) ∧
  ((Y < 0∧x % y=Y+(y.natAbs:Int)∧(y < 0→x / y=X+1)∧(¬ y < 0→x / y=X - 1))∨(¬ Y < 0∧x / y=X∧x % y=Y)):=by
 have hl:=Nat.mod_lt x.natAbs (show 0 < y.natAbs by omega)
 refine ⟨if decide (x < 0)=decide (y < 0) then ((x.natAbs / y.natAbs:Nat):Int) else -((x.natAbs / y.natAbs:Nat):Int),if x < 0 then -((x.natAbs % y.natAbs:Nat):Int) else ((x.natAbs % y.natAbs:Nat):Int),?_,?_,?_,?_,?_⟩
 ·split<;>simp only [Int.natAbs_neg,Int.natAbs_natCast]
 ·generalize x.natAbs / y.natAbs=Q
  rw [Bool.eq_iff_iff,decide_eq_true_eq]
  simp only [Bool.and_eq_true,Bool.not_eq_true',decide_eq_false_iff_not,decide_eq_true_eq]
  by_cases h1:x < 0<;>by_cases h2:y < 0<;>simp [h1,h2]<;>omega
 ·split<;>simp only [Int.natAbs_neg,Int.natAbs_natCast]
 ·generalize x.natAbs % y.natAbs=R
  rw [Bool.eq_iff_iff,decide_eq_true_eq]
  simp only [Bool.and_eq_true,decide_eq_true_eq]
  by_cases h1:x < 0<;>simp [h1]<;>omega
 ·by_cases h:x < 0∧x.natAbs % y.natAbs≠0
  ·obtain ⟨e1,e2⟩:=Zkw hy h.1 h.2
   refine .inl ⟨?_,?_,?_,?_⟩
   ·rw [if_pos h.1];omega
   ·rw [e2,if_pos h.1];omega
   ·intro h2
    rw [e1,if_pos h2,if_pos (by simp [h.1,h2])];omega
   ·intro h2
    rw [e1,if_neg h2,if_neg (by simp [h.1,h2])];omega
  ·obtain ⟨e1,e2⟩:=Zyd hy h
   refine .inr ⟨?_,?_,?_⟩
   ·split<;>omega
   ·rw [e1]
    by_cases h1:x < 0<;>by_cases h2:y < 0<;>simp [h1,h2]
   ·rw [e2]
    split<;>omega
end Go.Sx
namespace Go.Proofs.YtbfgldlfciimiaaGreatDoor
open Go Go.Sx
variable {w0:World} {As:List Ent}
def DivP (As:List Ent) (q r:Int) (u:Value) (Bs:List Ent):Prop:=∃ p cap p' cap',u=.tuple #[.agg #[.bool (decide (q < 0)),.slice p (qud q.natAbs).length cap],.agg #[.bool (decide (r < 0)),.slice p' (qud r.natAbs).length cap']]∧Bs=.ft (rd (cN .i64) (.slice p (qud q.natAbs).length cap) (qud q.natAbs))::.ft (rd (cN .i64) (.slice p' (qud r.natAbs).length cap') (qud r.natAbs))::As
theorem Z6p {v o:Value} {x:Int} {n:Nat} [hf:RdIn As v Nat (cN .i64) (qud x.natAbs)] [hg:RdIn As o Nat (cN .i64) (qud n)] (ha:(qud x.natAbs).length≤10000000) (hb:(qud n).length≤10000000) :
  CallsS Tryz.prog w0 189 [.agg #[.bool (decide (x < 0)),v],.agg #[.bool false,o]] As (PlainR As (x+(n:Int))):=by
 haveI hg':RdIn As o Nat (cN .i64) (qud (n:Int).natAbs):=hg
 have h:=Zqc (w0:=w0) (As:=As) (v:=v) (o:=o) (x:=x) (y:=(n:Int)) ha hb
 rw [show decide ((n:Int) < 0)=false by rw [decide_eq_false_iff_not];omega] at h
 exact h
theorem Zsv {v o:Value} {x y:Int} [hf:RdIn As v Nat (cN .i64) (qud x.natAbs)] [hg:RdIn As o Nat (cN .i64) (qud y.natAbs)] (hy:y≠0) (ha:(qud x.natAbs).length≤10000) (hb:(qud y.natAbs).length≤10000) :
  CallsS Tryz.prog w0 149 [.agg #[.bool (decide (x < 0)),v],.agg #[.bool (decide (y < 0)),o]] As (DivP As (x / y) (x % y)):=by
 refine Zae v fun pv cv hv=>Zae o fun po co ho=>?_
 subst hv ho
 obtain ⟨X,Y,hX1,hX2,hY1,hY2,hXY⟩:=Zu9 (x:=x) hy
 have l1:=Zcb (Nat.div_le_self x.natAbs y.natAbs)
 have l2:=Zcb (Nat.mod_le x.natAbs y.natAbs)
 refine Zab Tryz.func149 rfl Tryz.ntmps149 rfl ?_
 repeat' first|refine Kz ?_|intro _
 refine TL.call rfl rfl rfl (Zsu (a:=x.natAbs) (b:=y.natAbs) (by omega) (by omega) (by omega)) ?_
 rintro _ _ ⟨p,cap,p',cap',rfl,rfl⟩
 repeat' first|refine Kz ?_|intro _
 rename_i b2 b3 b4 b5
 refine Tri.mid (fun e' As'=>∃ b8 b9 p2 cap2 p3 cap3,e'=[(2,.pointer (some ⟨b2,0,none⟩)),(3,.pointer (some ⟨b3,0,none⟩)),(4,.pointer (some ⟨b4,0,none⟩)),(5,.pointer (some ⟨b5,0,none⟩)),(8,.pointer (some ⟨b8,0,none⟩)),(9,.pointer (some ⟨b9,0,none⟩))] ∧
  As'=.cl b8 [.bool (decide (X < 0)),.slice p2 (qud X.natAbs).length cap2] 132::.cl b9 [.bool (decide (Y < 0)),.slice p3 (qud Y.natAbs).length cap3] 132::.ft (rd (cN .i64) (.slice p2 (qud X.natAbs).length cap2) (qud X.natAbs))::.ft (rd (cN .i64) (.slice p3 (qud Y.natAbs).length cap3) (qud Y.natAbs)) ::
   .cl b5 [.bool false,.slice none 0 0] 132::.cl b4 [.bool false,.slice none 0 0] 132::.cl b3 [.bool (decide (y < 0)),.slice po (qud y.natAbs).length co] 132::.cl b2 [.bool (decide (x < 0)),.slice pv (qud x.natAbs).length cv] 132::As) ?_ ?_
 ·refine Zam (.take 0 (.take 1 (.take 2 (.take 3 (.take 4 (.take 5 (.take 7 (.take 8 (.take 9 (.all [(6,.all [(10,.all [(11,.all [(12,.all [(13,.all [(14,.done)])])]),(12,.all [(11,.all [(13,.all [(14,.done)])])])]),(11,.all [(10,.all [(12,.all [(13,.all [(14,.done)])])]),(12,.all [(10,.all [(13,.all [(14,.done)])])])]),(12,.all [(10,.all [(11,.all [(13,.all [(14,.done)])])]),(11,.all [(10,.all [(13,.all [(14,.done)])])])])]),(11,.all [(6,.all [(10,.all [(12,.all [(13,.all [(14,.done)])])]),(12,.all [(10,.all [(13,.all [(14,.done)])])])]),(12,.all [(6,.all [(10,.all [(13,.all [(14,.done)])])])])]),(12,.all [(6,.all [(10,.all [(11,.all [(13,.all [(14,.done)])])]),(11,.all [(10,.all [(13,.all [(14,.done)])])])]),(11,.all [(6,.all [(10,.all [(13,.all [(14,.done)])])])])])])))))))))) ?_
  repeat' first|refine Kf ?_|intro _|constructor
  all_goals (refine T1.callv rfl rfl rfl rfl rfl (Zfg (v:=.slice p (qud (x.natAbs / y.natAbs)).length cap) (xs:=qud (x.natAbs / y.natAbs)) (z:=X) (Za4 _) (by omega) (by rw [Za0];exact hX1) (by rw [Za0];exact hX2)) ?_
             rintro _ _ ⟨p2,cap2,rfl,rfl⟩
             (repeat' first|refine Kf ?_|intro _|constructor))
  all_goals (refine T1.callv rfl rfl rfl rfl rfl (Zfg (v:=.slice p' (qud (x.natAbs % y.natAbs)).length cap') (xs:=qud (x.natAbs % y.natAbs)) (z:=Y) (Za4 _) (by omega) (by rw [Za0];exact hY1) (by rw [Za0];exact hY2)) ?_
             rintro _ _ ⟨p3,cap3,rfl,rfl⟩
             (repeat' first|refine Kf ?_|intro _|constructor))
  all_goals exact Post.cut _ _ ⟨_,_,p2,cap2,p3,cap3,rfl,rfl⟩ Zad Zaa
 rintro _ _ ⟨b8,b9,p2,cap2,p3,cap3,rfl,rfl⟩
 repeat' first|refine Kz ?_|intro _
 have hq1:(qud (1:Int).natAbs).length≤1:=Zbj (by decide)
 have l3:(qud Y.natAbs).length≤10000:=by rw [hY1];omega
 have l4:(qud X.natAbs).length≤10000:=by rw [hX1];omega
 refine Tri.mid (fun e' As'=>∃ p4 cap4 p5 cap5,e'=[(4,.pointer (some ⟨b4,0,none⟩)),(5,.pointer (some ⟨b5,0,none⟩)),(8,.pointer (some ⟨b8,0,none⟩)),(9,.pointer (some ⟨b9,0,none⟩))] ∧
  As'=.cl b8 [.bool (decide (x / y < 0)),.slice p4 (qud (x / y).natAbs).length cap4] 132::.cl b9 [.bool (decide (x % y < 0)),.slice p5 (qud (x % y).natAbs).length cap5] 132::.ft (rd (cN .i64) (.slice p4 (qud (x / y).natAbs).length cap4) (qud (x / y).natAbs))::.ft (rd (cN .i64) (.slice p5 (qud (x % y).natAbs).length cap5) (qud (x % y).natAbs)) ::
   .cl b5 [.bool false,.slice none 0 0] 132::.cl b4 [.bool false,.slice none 0 0] 132::As) ?_ ?_
 ·rcases hXY with ⟨h0,e1,e2,e3⟩|⟨h0,e1,e2⟩
  ·repeat' first|refine Kz ?_|intro _
   refine TL.f rfl rfl (ExF.build (l:=[.bool false,.slice po (qud y.natAbs).length co]) rfl (fun w=>by kernel_rfl)) ?_
   repeat' first|refine Kz ?_|intro _
   refine TL.call rfl rfl rfl (Z6p (x:=Y) (n:=y.natAbs) (by omega) (by omega)) ?_
   rintro _ _ ⟨p5,cap5,rfl,rfl⟩
   rw [← e1]
   repeat' first|refine Kz ?_|intro _
   by_cases hy0:y < 0
   ·rw [e2 hy0]
    repeat' first|refine Kz ?_|intro _
    refine Zam (.take 0 (.all [(1,.all [(2,.all [(3,.done)])])])) ?_
    repeat' first|refine Kf ?_|intro _|constructor
    refine T1.call rfl rfl rfl rfl (Zdp (n:=1) (by omega) (by omega)) ?_
    rintro _ _ ⟨p6,cap6,rfl,rfl⟩
    repeat' first|refine Kf ?_|intro _|constructor
    refine T1.call rfl rfl rfl rfl (Zqc (x:=X) (y:=1) (by omega) (by omega)) ?_
    rintro _ _ ⟨p7,cap7,rfl,rfl⟩
    repeat' first|refine Kf ?_|intro _|constructor
    exact Post.cut _ _ ⟨p7,cap7,p5,cap5,rfl,rfl⟩ Zad Zaa
   ·rw [e3 hy0]
    repeat' first|refine Kz ?_|intro _
    refine Zam (.take 0 (.all [(1,.all [(2,.all [(3,.done)])])])) ?_
    repeat' first|refine Kf ?_|intro _|constructor
    refine T1.call rfl rfl rfl rfl (Zdp (n:=1) (by omega) (by omega)) ?_
    rintro _ _ ⟨p6,cap6,rfl,rfl⟩
    repeat' first|refine Kf ?_|intro _|constructor
    refine T1.call rfl rfl rfl rfl (Zs2 (x:=X) (y:=1) (by omega) (by omega)) ?_
    rintro _ _ ⟨p7,cap7,rfl,rfl⟩
    repeat' first|refine Kf ?_|intro _|constructor
    exact Post.cut _ _ ⟨p7,cap7,p5,cap5,rfl,rfl⟩ Zad Zaa
  ·rw [e1,e2]
   repeat' first|refine Kz ?_|intro _
   exact Post.cut _ _ ⟨p2,cap2,p3,cap3,rfl,rfl⟩ Zad Zaa
 rintro _ _ ⟨p4,cap4,p5,cap5,rfl,rfl⟩
 repeat' first|refine Kz ?_|intro _
 refine Zag [] [(0,.c b8),(1,.c b9)] (.take 0 (.take 1 (.all [(2,.all [(3,.done)])]))) ?_
 repeat' first|refine Kf ?_|intro _|constructor
 (refine Zac ?_)
 exact ⟨_,⟨p4,cap4,p5,cap5,rfl,rfl⟩,Zaa⟩
theorem Zm3 {v o:Value} {x y:Int} [hf:FtIn As v Nat (cN .i64) (qud x.natAbs)] [hg:FtIn As o Nat (cN .i64) (qud y.natAbs)] (ha:(qud x.natAbs).length≤10000) (hb:(qud y.natAbs).length≤10000) :
  CallsS Tryz.prog w0 129 [.agg #[.bool (decide (x < 0)),v],.agg #[.bool (decide (y < 0)),o]] As (PlainR As (gcdI x y)):=by
 refine Zae v fun pv cv hv=>Zae o fun po co ho=>?_
 subst hv ho
 refine Zab Tryz.func129 rfl Tryz.ntmps129 rfl ?_
 repeat' first|refine Kz ?_|intro _
 refine Zam (.take 0 (.take 1 (.take 2 (.take 3 (.take 4 (.take 5 (.done))))))) ?_
 repeat' first|refine Kf ?_|intro _|constructor
 rename_i b2 b3 b4
 refine Tri.loop (ι:=Value × Value × Nat × Nat) (fun s=>Nat.gcd s.2.2.1 s.2.2.2=Nat.gcd x.natAbs y.natAbs∧(qud s.2.2.1).length≤10000∧(qud s.2.2.2).length≤10000) (fun s=>s.2.2.2)
  (fun s=>[(4,.pointer (some ⟨b4,0,none⟩)),(5,s.1),(6,s.2.1)]) (fun s=>.ft (rd (cN .i64) s.2.1 (qud s.2.2.2))::.ft (rd (cN .i64) s.1 (qud s.2.2.1))::.cl b4 [.bool false,.slice none 0 0] 132::As) (.slice pv (qud x.natAbs).length cv,.slice po (qud y.natAbs).length co,x.natAbs,y.natAbs) ⟨rfl,ha,hb⟩ Zad
  (Ents.trans (Ents.dup (v:=.slice pv (qud x.natAbs).length cv)) (Ents.trans (Ents.dup (v:=.slice po (qud y.natAbs).length co)) Zaa)) ?_
 rintro ⟨v,o,x',y'⟩ ⟨hxy,hx,hy⟩
 simp only at hxy hx hy
 show Tri _ _ _ _ [(4,.pointer (some ⟨b4,0,none⟩)),(5,v),(6,o)] (.ft (rd (cN .i64) o (qud y'))::.ft (rd (cN .i64) v (qud x'))::.cl b4 [.bool false,.slice none 0 0] 132::As) _
 repeat' first|refine Kz ?_|intro _
 by_cases hy0:y'=0
 ·subst hy0
  rw [Nat.gcd_zero_right] at hxy
  subst hxy
  have hq0:(qud 0).length=0:=by rw [Zbh];rfl
  refine Zdb (c:=cN .i64) (xs:=qud (Nat.gcd x.natAbs y.natAbs)) v ?_
  rintro p cap rfl
  repeat' first|refine Kz ?_|intro _
  refine TL.f rfl rfl (ExF.build (l:=[.bool false,.slice p (qud (Nat.gcd x.natAbs y.natAbs)).length cap]) rfl (fun w=>by kernel_rfl)) ?_
  repeat' first|refine Kz ?_|intro _
  (refine Zac ?_)
  refine ⟨_,⟨p,cap,?_,rfl⟩,?_⟩
  ·rw [show decide (gcdI x y < 0)=false by rw [decide_eq_false_iff_not];unfold gcdI;omega]
   rfl
  ·rw [show (gcdI x y).natAbs=Nat.gcd x.natAbs y.natAbs from rfl]
   (exact Zaa)
 ·have hyl:(qud y').length≠0:=fun h=>hy0 (Zxh.1 h)
  have hml:=Zcb (Nat.le_of_lt (Nat.mod_lt x' (show 0 < y' by omega)))
  repeat' first|refine Kz ?_|intro _
  refine TL.call rfl rfl rfl (Zsu (a:=x') (b:=y') hy0 (by omega) (by omega)) ?_
  rintro _ _ ⟨p,cap,p',cap',rfl,rfl⟩
  repeat' first|refine Kz ?_|intro _
  exact Post.round (o,.slice p' (qud (x' % y')).length cap',y',x' % y') ⟨by rw [← hxy];exact ((Nat.gcd_comm _ _).trans (Nat.gcd_rec y' x').symm).trans (Nat.gcd_comm _ _),hy,by simp only;omega⟩ (Nat.mod_lt _ (by omega)) Zad Zaa
end Go.Proofs.YtbfgldlfciimiaaGreatDoor
