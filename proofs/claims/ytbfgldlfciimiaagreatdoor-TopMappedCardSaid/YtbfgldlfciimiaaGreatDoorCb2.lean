/- Walks: one group of a quotient. -/
import Derived.Test.YtbfgldlfciimiaaGreatDoorWb1
import Derived.Test.YtbfgldlfciimiaaGreatDoorCb1
set_option maxHeartbeats 1000000
namespace Go.Proofs.YtbfgldlfciimiaaGreatDoor.Q
open Go Go.Sx
variable {w0:World} {As:List Ent}
set_option maxHeartbeats 2000000 in
theorem Zmd {vu v:Value} {us:List Nat} {b lo m:Nat} [hg:RdIn As v Nat (cN .u32) (mag b)] (hn:(mag b).length=m+2) (hl:lo+(mag b).length+1≤us.length) (hul:us.length≤1000000000) (hus:∀ x∈us,x < 1000000000) (hb:500000000 * 1000000000 ^ (m+1)≤b) (hW:valB (us.drop lo) < 1000000000 * b) :
  CallsS Tryz.prog w0 199 [subV 1 vu lo (lo+(mag b).length+1),v] (.ow (cN .u32) 256 vu us::As) (RedR As vu us lo b):=by
 have hsb:=Za2 b
 obtain ⟨u0,hu0⟩:∃ x,us[lo+(mag b).length]?=some x:=⟨_,List.getElem?_eq_getElem (by omega)⟩
 obtain ⟨u1,hu1⟩:∃ x,us[lo+((mag b).length - 1)]?=some x:=⟨_,List.getElem?_eq_getElem (by omega)⟩
 obtain ⟨u2,hu2⟩:∃ x,us[lo+((mag b).length - 2)]?=some x:=⟨_,List.getElem?_eq_getElem (by omega)⟩
 obtain ⟨v1,hv1⟩:∃ x,(mag b)[(mag b).length - 1]?=some x:=⟨_,List.getElem?_eq_getElem (by omega)⟩
 obtain ⟨v2,hv2⟩:∃ x,(mag b)[(mag b).length - 2]?=some x:=⟨_,List.getElem?_eq_getElem (by omega)⟩
 have hu09:=hus _ (List.mem_of_getElem? hu0)
 have hu19:=hus _ (List.mem_of_getElem? hu1)
 have hu29:=hus _ (List.mem_of_getElem? hu2)
 have hv19:=hsb _ (List.mem_of_getElem? hv1)
 have hv29:=hsb _ (List.mem_of_getElem? hv2)
 have hb0:0 < b:=Nat.lt_of_lt_of_le (Nat.mul_pos (by omega) (Nat.pow_pos (by omega))) hb
 have hbn:=Zai b
 rw [hn] at hbn
 have hWn:valB (us.drop lo) < 1000000000 ^ (m+3):=by
  rw [Nat.pow_succ,Nat.mul_comm]
  exact Nat.lt_of_lt_of_le hW (Nat.mul_le_mul_left _ (Nat.le_of_lt hbn))
 have hhigh:=Ziu hWn
 -- the first groups
 have hV:b=(v1 * 1000000000+v2) * 1000000000 ^ m+valB ((mag b).take m):=by
  have:=Zog (xs:=mag b) (k:=m) (by rw [← hv2];congr 1;omega) (by rw [← hv1];congr 1;omega) hn
  rwa [Za8] at this
 have hVl:valB ((mag b).take m) < 1000000000 ^ m:=by
  have:=Zdi (xs:=(mag b).take m) fun x hx=>hsb x (List.mem_of_mem_take hx)
  rwa [List.length_take,Nat.min_eq_left (by omega)] at this
 have hWe:valB (us.drop lo)=((u0 * 1000000000+u1) * 1000000000+u2) * 1000000000 ^ m+valB ((us.drop lo).take m) :=
  Zko (by rw [List.getElem?_drop,← hu2];congr 1;omega) (by rw [List.getElem?_drop,← hu1];congr 1;omega) (by rw [List.getElem?_drop,← hu0];congr 1;omega) hhigh
 have hWl:valB ((us.drop lo).take m) < 1000000000 ^ m:=by
  have:=Zdi (xs:=(us.drop lo).take m) fun x hx=>hus x (List.mem_of_mem_drop (List.mem_of_mem_take hx))
  rwa [List.length_take,List.length_drop,Nat.min_eq_left (by omega)] at this
 have hK:0 < 1000000000 ^ m:=Nat.pow_pos (by omega)
 have hv1h:1000000000≤2 * v1:=by
  have h1:500000000 * 1000000000 * 1000000000 ^ m≤b:=by rw [Nat.pow_succ] at hb;rw [Nat.mul_assoc,Nat.mul_comm 1000000000];exact hb
  have h2:b < (v1 * 1000000000+1000000000) * 1000000000 ^ m:=by
   have:(v1 * 1000000000+v2+1) * 1000000000 ^ m≤(v1 * 1000000000+1000000000) * 1000000000 ^ m:=Nat.mul_le_mul_right _ (by omega)
   rw [Nat.add_mul _ 1,Nat.one_mul] at this
   omega
  have h3:=Nat.lt_of_mul_lt_mul_right (Nat.lt_of_le_of_lt h1 h2)
  omega
 obtain ⟨hd,hhd⟩:∃ h,h=u0 * 1000000000+u1:=⟨_,rfl⟩
 have hhz:((u0:Int) * 1000000000+u1)=(hd:Int):=by omega
 have hdl:hd < 1000000000000000000:=by omega
 rw [← hhd] at hWe
 generalize hWd:valB (us.drop lo)=W at hW hWn hWe
 refine Zab Tryz.func199 rfl Tryz.ntmps199 rfl ?_
 repeat' first|refine Kz ?_|intro _
 refine Zam (.take 0 (.take 1 (.take 2 (.take 3 (.take 4 (.take 5 (.take 6 (.take 7 (.take 8 (.take 9 (.take 10 (.take 11 (.take 12 (.take 13 (.done))))))))))))))) ?_
 repeat' first|refine Kf ?_|intro _|constructor
 rw [hhz]
 refine Zam (.take 0 (.take 1 (.take 2 (.take 3 (.take 4 (.take 5 (.take 6 (.take 7 (.done))))))))) ?_
 repeat' first|refine Kf ?_|intro _|constructor
 have hq1:((hd:Int) / (v1:Int))=((hd / v1:Nat):Int):=(Int.natCast_ediv _ _).symm
 have hr1:((hd:Int) % (v1:Int))=((hd % v1:Nat):Int):=(Int.natCast_emod _ _).symm
 rw [hq1,hr1]
 have hv10:0 < v1:=by omega
 have hqt:W / b < 1000000000:=Nat.div_lt_of_lt_mul (by rw [Nat.mul_comm];exact hW)
 have hstop:∀ q r,q * v1+r=hd→q≤1000000000→1000000000≤r→q≤W / b:=fun q r h1 h2 h3=>Zxd (B:=1000000000) hb0 hV hVl hv29 hWe h1 h2 h3
 have hexit:∀ q r,q * v1+r=hd→q < 1000000000→q * v2≤r * 1000000000+u2→q≤W / b+1:=fun q r h1 h2 h3=>Zxg (B:=1000000000) hv10 hV hVl hWe h1 h2 h3
 have hdec:∀ q r,q * v1+r=hd→r * 1000000000+u2 < q * v2→W / b < q:=fun q r h1 h2=>Z17 (B:=1000000000) hV hWe hWl h1 h2
 have hini:W / b≤hd / v1:=Zxf (B:=1000000000) hv10 hV hWe hWl hu29 (by omega)
 have hfst:hd / v1≤1000000000+1:=Zso (B:=1000000000) hhd.symm hu19 hv29 hVl hV hWe hW hv1h (by omega)
 have hsum:hd / v1 * v1+hd % v1=hd:=Nat.div_add_mod' hd v1
 have hrl:hd % v1 < v1:=Nat.mod_lt _ hv10
 generalize htq:W / b=tq at hqt hstop hexit hdec hini
 refine Tri.midB (fun e' As'=>∃ q,q < 1000000000∧tq≤q∧q≤tq+1∧e'=[(0,subV 1 vu lo (lo+(mag b).length+1)),(1,v),(5,.int .i64 (mag b).length),(8,.int .u64 (q:Int))]∧As'=.ow (cN .u32) 256 vu us::As) ?_ ?_
 ·refine Tri.loop (ι:=Nat × Nat) (fun s=>s.1 * v1+s.2=hd∧tq≤s.1∧s.1≤1000000001∧s.2 < 1000000000) (fun s=>s.1)
   (fun s=>[(0,subV 1 vu lo (lo+(mag b).length+1)),(1,v),(5,.int .i64 (mag b).length),(6,.int .u64 (v1:Int)),(8,.int .u64 (s.1:Int)),(9,.int .u64 (s.2:Int))]) (fun _=>.ow (cN .u32) 256 vu us::As)
   (hd / v1,hd % v1) ⟨hsum,hini,hfst,by simp only;omega⟩ Zad Zaa ?_
  rintro ⟨q,r⟩ ⟨hqr,hqW,hqB,hrB⟩
  simp only at hqr hqW hqB hrB
  show Tri _ _ _ _ [(0,subV 1 vu lo (lo+(mag b).length+1)),(1,v),(5,.int .i64 (mag b).length),(6,.int .u64 (v1:Int)),(8,.int .u64 (q:Int)),(9,.int .u64 (r:Int))] (.ow (cN .u32) 256 vu us::As) _
  have hqv:q * v2≤1000000001 * 999999999:=Nat.mul_le_mul hqB (by omega)
  have hqvz:(q:Int) * (v2:Int)=((q * v2:Nat):Int):=(Int.natCast_mul _ _).symm
  have hnext:tq < q→∃ q',q=q'+1∧tq≤q'∧q' * v1+(r+v1)=hd:=fun h=>by
   obtain ⟨q',rfl⟩:∃ q',q=q'+1:=⟨q - 1,by omega⟩
   rw [Nat.add_mul,Nat.one_mul] at hqr
   exact ⟨q',rfl,by omega,by omega⟩
  repeat' first|refine Kz ?_|intro _
  have hl2:(((mag b).length:Int) - 2)=(((mag b).length - 2:Nat):Int):=by omega
  by_cases hq0:(1000000000:Int)≤q
  ·obtain ⟨q',h1,h2,h3⟩:=hnext (by omega)
   subst h1
   refine Zam (.take 0 (.take 1 (.take 2 (.take 3 (.take 4 (.take 5 (.take 6 (.take 7 (.take 8 (.take 9 (.take 10 (.take 11 (.take 12 (.take 13 (.take 14 (.take 15 (.take 16 (.take 17 (.take 18 (.take 19 (.take 20 (.take 21 (.done))))))))))))))))))))))) ?_
   repeat' first|refine Kf ?_|intro _|constructor
   (refine Kx (fun hc=>?_) fun hc=>?_)
   ·repeat' first|refine Kf ?_|intro _|constructor
    have h6:=hstop q' (r+v1) h3 (by omega) (by omega)
    exact Post.cut _ _ ⟨q',by omega,h2,by omega,rfl,rfl⟩ Zad Zaa
   ·repeat' first|refine Kf ?_|intro _|constructor
    exact Post.round (q',r+v1) ⟨h3,h2,by simp only;omega,by simp only;omega⟩ (by simp only;omega) Zad Zaa
  ·by_cases hgt:(r:Int) * 1000000000+u2 < (q:Int) * v2
   ·obtain ⟨q',h1,h2,h3⟩:=hnext (hdec q r hqr (by omega))
    subst h1
    refine Zam (.take 0 (.take 1 (.take 2 (.take 3 (.take 4 (.take 5 (.take 6 (.take 7 (.take 8 (.take 9 (.take 10 (.take 11 (.take 12 (.take 13 (.take 14 (.take 15 (.take 16 (.take 17 (.take 18 (.take 19 (.take 20 (.take 21 (.done))))))))))))))))))))))) ?_
    repeat' first|refine Kf ?_|intro _|constructor
    rw [hl2]
    repeat' first|refine Kf ?_|intro _|constructor
    rw [hl2]
    repeat' first|refine Kf ?_|intro _|constructor
    (refine Kx (fun hc=>?_) fun hc=>?_)
    ·repeat' first|refine Kf ?_|intro _|constructor
     have h6:=hstop q' (r+v1) h3 (by omega) (by omega)
     exact Post.cut _ _ ⟨q',by omega,h2,by omega,rfl,rfl⟩ Zad Zaa
    ·repeat' first|refine Kf ?_|intro _|constructor
     exact Post.round (q',r+v1) ⟨h3,h2,by simp only;omega,by simp only;omega⟩ (by simp only;omega) Zad Zaa
   ·refine Zam (.take 0 (.take 1 (.take 2 (.take 3 (.take 4 (.take 5 (.take 6 (.take 7 (.take 8 (.take 9 (.take 10 (.take 11 (.take 12 (.take 13 (.take 14 (.take 15 (.take 16 (.take 17 (.take 18 (.take 19 (.take 20 (.take 21 (.done))))))))))))))))))))))) ?_
    repeat' first|refine Kf ?_|intro _|constructor
    rw [hl2]
    repeat' first|refine Kf ?_|intro _|constructor
    rw [hl2]
    repeat' first|refine Kf ?_|intro _|constructor
    exact Post.cut _ _ ⟨q,by omega,hqW,hexit q r hqr (by omega) (by omega),rfl,rfl⟩ Zad Zaa
 rintro _ _ ⟨q,hqB,hqW,hq1,rfl,hBs⟩
 subst hBs
 clear hini hfst hsum hrl hdec hexit hstop
 repeat' first|refine Kz ?_|intro _
 refine Tri.loop (ι:=Nat × List Nat × Nat × Nat) (fun s=>s.1≤(mag b).length∧s.2.1.length=us.length∧(∀ x∈s.2.1,x < 1000000000)∧s.2.2.1 < 1000000000∧s.2.2.2≤1∧s.2.1.drop (lo+s.1)=us.drop (lo+s.1)∧s.2.1.take lo=us.take lo∧valB (s.2.1.drop lo)+q * valB ((mag b).take s.1)=W+1000000000 ^ s.1 * (s.2.2.1+s.2.2.2)) (fun s=>(mag b).length - s.1)
  (fun s=>[(0,subV 1 vu lo (lo+(mag b).length+1)),(1,v),(5,.int .i64 (mag b).length),(8,.int .u64 (q:Int)),(10,.int .u64 (s.2.2.1:Int)),(11,.int .i64 (s.2.2.2:Int)),(75,v),(76,.int .i64 (mag b).length),(77,.int .i64 (s.1:Int))]) (fun s=>.ow (cN .u32) 256 vu s.2.1::As)
  (0,us,0,0) ⟨by omega,rfl,hus,by simp only;omega,by simp only;omega,rfl,rfl,by simp [valB,hWd]⟩ Zad Zaa ?_
 rintro ⟨i,xs,c,bo⟩ ⟨hi,hxl,hxs,hc9,hbo,hxd,hxt,hval⟩
 simp only at hi hxl hxs hc9 hbo hxd hxt hval
 show Tri _ _ _ _ [(0,subV 1 vu lo (lo+(mag b).length+1)),(1,v),(5,.int .i64 (mag b).length),(8,.int .u64 (q:Int)),(10,.int .u64 (c:Int)),(11,.int .i64 (bo:Int)),(75,v),(76,_),(77,.int .i64 (i:Int))] (.ow (cN .u32) 256 vu xs::As) _
 repeat' first|refine Kz ?_|intro _
 (refine Kx (fun hc=>?_) fun hc=>?_)
 ·obtain ⟨d,hd'⟩:∃ d,(mag b)[i]?=some d:=⟨_,List.getElem?_eq_getElem (by omega)⟩
  have hd9:=hsb d (List.mem_of_getElem? hd')
  have htb:=Zaw hd'
  obtain ⟨p,hp⟩:∃ p,xs[lo+i]?=some p:=⟨_,List.getElem?_eq_getElem (by omega)⟩
  have hp9:=hxs p (List.mem_of_getElem? hp)
  have hqd:q * d≤999999999 * 999999999:=Nat.mul_le_mul (by omega) (by omega)
  obtain ⟨t,ht⟩:∃ t,t=c+q * d:=⟨_,rfl⟩
  have htz:(c:Int)+(q:Int) * (d:Int)=(t:Int):=by rw [ht,Int.natCast_add,Int.natCast_mul]
  have hnew:∀ g b',g+t % 1000000000+bo=p+1000000000 * b'→valB ((xs.set (lo+i) g).drop lo)+q * valB ((mag b).take (i+1))=W+1000000000 ^ (i+1) * (t / 1000000000+b'):=fun g b' h=>by
   rw [htb,Nat.mul_add,Nat.mul_left_comm,Nat.pow_succ,ht]
   exact Zr7 (Zdh hp) hval (by rw [← ht];exact h)
  have hxd':∀ g,(xs.set (lo+i) g).drop (lo+(i+1))=us.drop (lo+(i+1)):=fun g=>by
   rw [List.drop_set_of_lt (by omega),show lo+(i+1)=(lo+i)+1 by omega,← List.drop_drop,hxd,List.drop_drop]
  have hxt':∀ g,(xs.set (lo+i) g).take lo=us.take lo:=fun g=>by rw [List.take_set_of_le (by omega),hxt]
  repeat' first|refine Kz ?_|intro _
  rw [htz]
  repeat' first|refine Kz ?_|intro _
  (refine Kx (fun hc=>?_) fun hc=>?_)
  ·have e9:((p:Int) - bo - (t:Int) % 1000000000+1000000000)=((p+1000000000 - bo - t % 1000000000:Nat):Int):=by omega
   repeat' first|refine Kz ?_|intro _
   rw [e9]
   repeat' first|refine Kz ?_|intro _
   exact Post.round (i+1,xs.set (lo+i) (p+1000000000 - bo - t % 1000000000),t / 1000000000,1) ⟨by simp only;omega,by simpa using hxl,Zax hxs (by omega),by simp only;omega,Nat.le_refl 1,hxd' _,hxt' _,hnew _ 1 (by omega)⟩ (by simp only;omega) Zad Zaa
  ·have e9:((p:Int) - bo - (t:Int) % 1000000000)=((p - bo - t % 1000000000:Nat):Int):=by omega
   repeat' first|refine Kz ?_|intro _
   rw [e9]
   repeat' first|refine Kz ?_|intro _
   exact Post.round (i+1,xs.set (lo+i) (p - bo - t % 1000000000),t / 1000000000,0) ⟨by simp only;omega,by simpa using hxl,Zax hxs (by omega),by simp only;omega,Nat.zero_le 1,hxd' _,hxt' _,hnew _ 0 (by omega)⟩ (by simp only;omega) Zad Zaa
 have hie:i=(mag b).length:=by omega
 subst hie
 rw [Zak (Nat.le_refl _),Za8] at hval
 have hat:∀ ys:List Nat,ys.drop (lo+(mag b).length)=us.drop (lo+(mag b).length)→ys[lo+(mag b).length]?=some u0∧valB (ys.drop lo)=valB ((ys.drop lo).take (mag b).length)+1000000000 ^ (mag b).length * u0:=fun ys h=>by
  have h1:ys[lo+(mag b).length]?=some u0:=by
   rw [← hu0]
   have h2:=congrArg (fun l:List Nat=>l[0]?) h
   simpa [List.getElem?_drop] using h2
  refine ⟨h1,Zsy (by rw [List.getElem?_drop];exact h1) ?_⟩
  rw [List.drop_drop,show lo+((mag b).length+1)=(lo+(mag b).length)+1 by omega,← List.drop_drop,h,List.drop_drop]
  rw [List.drop_drop] at hhigh
  rw [show lo+(mag b).length+1=lo+(m+3) by omega]
  exact hhigh
 have hlow:∀ ys:List Nat,ys.length=us.length→(∀ x∈ys,x < 1000000000)→valB ((ys.drop lo).take (mag b).length) < 1000000000 ^ (mag b).length:=fun ys h1 h2=>by
  have:=Zdi (xs:=(ys.drop lo).take (mag b).length) fun x hx=>h2 x (List.mem_of_mem_drop (List.mem_of_mem_take hx))
  rwa [List.length_take,List.length_drop,Nat.min_eq_left (by omega)] at this
 obtain ⟨hx0,hxv⟩:=hat xs hxd
 have hxL:=hlow xs hxl hxs
 have hbP:b < 1000000000 ^ (mag b).length:=Zai b
 have hzero:∀ ys:List Nat,ys[lo+(mag b).length]?=some u0→valB (ys.drop lo)=valB ((ys.drop lo).take (mag b).length)+1000000000 ^ (mag b).length * u0→valB ((ys.set (lo+(mag b).length) 0).drop lo)=valB ((ys.drop lo).take (mag b).length):=fun ys h1 h2=>by
  have:=Zdh (lo:=lo) (i:=(mag b).length) (g:=0) h1
  omega
 rw [hxv] at hval
 repeat' first|refine Kz ?_|intro _
 (refine Kx (fun hc=>?_) fun hc=>?_)
 ·have hq0:0 < q:=by
   rcases Nat.eq_zero_or_pos q with h|h
   ·exfalso
    subst h
    have:=Nat.mul_le_mul_left (1000000000 ^ (mag b).length) (show u0+1≤c+bo by omega)
    rw [Nat.mul_add,Nat.mul_one] at this
    omega
   ·exact h
  repeat' first|refine Kz ?_|intro _
  refine Tri.loop (ι:=Nat × List Nat × Nat) (fun s=>s.1≤(mag b).length∧s.2.1.length=us.length∧(∀ x∈s.2.1,x < 1000000000)∧s.2.2≤1∧s.2.1.drop (lo+(mag b).length)=us.drop (lo+(mag b).length)∧s.2.1.take lo=us.take lo∧valB (s.2.1.drop lo)+1000000000 ^ s.1 * s.2.2=valB (xs.drop lo)+valB ((mag b).take s.1)) (fun s=>(mag b).length - s.1)
   (fun s=>[(0,subV 1 vu lo (lo+(mag b).length+1)),(5,.int .i64 (mag b).length),(8,.int .u64 ((q - 1:Nat):Int)),(15,.int .u32 (s.2.2:Int)),(123,v),(124,.int .i64 (mag b).length),(125,.int .i64 (s.1:Int))]) (fun s=>.ow (cN .u32) 256 vu s.2.1::As)
   (0,xs,0) ⟨by simp only;omega,hxl,hxs,by simp only;omega,hxd,hxt,by simp [valB]⟩ Zad Zaa ?_
  rintro ⟨i,ys,o⟩ ⟨hi,hyl,hys,ho,hyd,hyt,hyv⟩
  simp only at hi hyl hys ho hyd hyt hyv
  show Tri _ _ _ _ [(0,subV 1 vu lo (lo+(mag b).length+1)),(5,.int .i64 (mag b).length),(8,.int .u64 ((q - 1:Nat):Int)),(15,.int .u32 (o:Int)),(123,v),(124,_),(125,.int .i64 (i:Int))] (.ow (cN .u32) 256 vu ys::As) _
  repeat' first|refine Kz ?_|intro _
  (refine Kx (fun hc=>?_) fun hc=>?_)
  ·obtain ⟨d,hd'⟩:∃ d,(mag b)[i]?=some d:=⟨_,List.getElem?_eq_getElem (by omega)⟩
   have hd9:=hsb d (List.mem_of_getElem? hd')
   have htb:=Zaw hd'
   obtain ⟨p,hp⟩:∃ p,ys[lo+i]?=some p:=⟨_,List.getElem?_eq_getElem (by omega)⟩
   have hp9:=hys p (List.mem_of_getElem? hp)
   have hnew:∀ g o',g+1000000000 * o'=p+d+o→valB ((ys.set (lo+i) g).drop lo)+1000000000 ^ (i+1) * o'=valB (xs.drop lo)+valB ((mag b).take (i+1)):=fun g o' h=>by
    rw [htb,Nat.pow_succ]
    exact Zt1 (Zdh hp) hyv h
   have hyd':∀ g,(ys.set (lo+i) g).drop (lo+(mag b).length)=us.drop (lo+(mag b).length):=fun g=>by rw [List.drop_set_of_lt (by omega),hyd]
   have hyt':∀ g,(ys.set (lo+i) g).take lo=us.take lo:=fun g=>by rw [List.take_set_of_le (by omega),hyt]
   repeat' first|refine Kz ?_|intro _
   (refine Kx (fun hc=>?_) fun hc=>?_)
   ·have e9:((p:Int)+d+o - 1000000000)=((p+d+o - 1000000000:Nat):Int):=by omega
    repeat' first|refine Kz ?_|intro _
    rw [e9]
    repeat' first|refine Kz ?_|intro _
    exact Post.round (i+1,ys.set (lo+i) (p+d+o - 1000000000),1) ⟨by simp only;omega,by simpa using hyl,Zax hys (by omega),Nat.le_refl 1,hyd' _,hyt' _,hnew _ 1 (by omega)⟩ (by simp only;omega) Zad Zaa
   ·have e9:((p:Int)+d+o)=((p+d+o:Nat):Int):=by omega
    rw [e9]
    repeat' first|refine Kz ?_|intro _
    exact Post.round (i+1,ys.set (lo+i) (p+d+o),0) ⟨by simp only;omega,by simpa using hyl,Zax hys (by omega),Nat.zero_le 1,hyd' _,hyt' _,hnew _ 0 (by omega)⟩ (by simp only;omega) Zad Zaa
  ·have hie:i=(mag b).length:=by omega
   subst hie
   obtain ⟨hy0,hyw⟩:=hat ys hyd
   rw [Zak (Nat.le_refl _),Za8,hyw,hxv] at hyv
   obtain ⟨k1,k2⟩:=Zxe (o:=o) hxL hbP hval (by omega) (by rw [htq];exact hq1) hb0 (by omega) (hlow ys hyl hys)
   repeat' first|refine Kz ?_|intro _
   (refine Zac ?_)
   refine ⟨_,⟨ys.set (lo+(mag b).length) 0,?_,by simpa using hyl,Zax hys (by omega),?_,by rw [List.take_set_of_le (by omega),hyt],rfl⟩,Zaa⟩
   ·rw [hWd,k1];rfl
   ·rw [hzero ys hy0 hyw,k2,hWd]
 ·repeat' first|refine Kz ?_|intro _
  obtain ⟨k1,k2⟩:=Zsn hxL hbP hval (by omega) (by rw [htq];exact hqW) hb0
  (refine Zac ?_)
  refine ⟨_,⟨xs.set (lo+(mag b).length) 0,?_,by simpa using hxl,Zax hxs (by omega),?_,by rw [List.take_set_of_le (by omega),hxt],rfl⟩,Zaa⟩
  ·rw [hWd,k1]
  ·rw [hzero xs hx0 hxv,k2,hWd]
end Go.Proofs.YtbfgldlfciimiaaGreatDoor.Q
