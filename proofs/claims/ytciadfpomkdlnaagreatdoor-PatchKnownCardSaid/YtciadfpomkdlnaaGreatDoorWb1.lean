/- Walks: magnitudes of small numbers, products, a number by one group. -/
import Derived.Test.YtciadfpomkdlnaaGreatDoorWa3
import Derived.Test.YtciadfpomkdlnaaGreatDoorPl
import Derived.Test.YtciadfpomkdlnaaGreatDoorSxB
import Derived.Below
set_option maxHeartbeats 1000000
namespace Go.Proofs.YtciadfpomkdlnaaGreatDoor
open Go Go.Sx
variable {w0:World} {As:List Ent}
theorem Zc3 {v o:Value} {a b:Nat} [hf:RdIn As v Nat (cN .u32) (mag a)] [hg:RdIn As o Nat (cN .u32) (mag b)] (ha:(mag a).length≤100000000) (hb:(mag b).length≤100000000):CallsS Tryz.prog w0 203 [v,o] As (MagR As (a * b)):=by
 have hsa:=Zbj a
 have hsb:=Zbj b
 have hrl:(List.replicate ((mag a).length+(mag b).length) 0).length=(mag a).length+(mag b).length:=List.length_replicate
 refine Zab Tryz.func203 rfl Tryz.ntmps203 rfl ?_
 repeat' first|refine Kz ?_|intro _
 rename_i sv
 refine Tri.loop (ι:=Nat × List Nat) (fun s=>s.1≤(mag a).length∧s.2.length=(mag a).length+(mag b).length∧(∀ x∈s.2,x < 1000000000)∧valB s.2=valB ((mag a).take s.1) * b) (fun s=>(mag a).length - s.1)
  (fun s=>[(1,o),(5,sv),(17,v),(18,.int .i64 (mag a).length),(19,.int .i64 (s.1:Int))]) (fun s=>.ow (cN .u32) 226 sv s.2::As)
  (0,List.replicate ((mag a).length+(mag b).length) 0) ⟨by omega,hrl,Zec _,by simp [Zcd,valB]⟩ Zad Zaa ?_
 rintro ⟨i,xs⟩ ⟨hi,hxl,hxs,hval⟩
 simp only at hi hxl hxs hval
 show Tri _ _ _ _ [(1,o),(5,sv),(17,v),(18,_),(19,.int .i64 (i:Int))] (.ow (cN .u32) 226 sv xs::As) _
 repeat' first|refine Kz ?_|intro _
 (refine Kx (fun hc=>?_) fun hc=>?_)
 ·obtain ⟨d,hd⟩:∃ d,(mag a)[i]?=some d:=⟨_,List.getElem?_eq_getElem (by omega)⟩
  have hd9:=hsa d (List.mem_of_getElem? hd)
  have hta:=Za4 hd
  have hbp:=Zak b
  have hap:valB ((mag a).take i) < 1000000000 ^ i:=by
   have:=Zej (xs:=(mag a).take i) fun x hx=>hsa x (List.mem_of_mem_take hx)
   rwa [List.length_take,Nat.min_eq_left (by omega)] at this
  have hxz:xs[i+(mag b).length]?=some 0:=by
   obtain ⟨z,hz⟩:∃ z,xs[i+(mag b).length]?=some z:=⟨_,List.getElem?_eq_getElem (by omega)⟩
   rw [Zgq (n:=i+(mag b).length) (by
    rw [hval,Nat.pow_add]
    rcases Nat.eq_zero_or_pos b with h0|h0
    ·rw [h0,Nat.mul_zero];exact Nat.mul_pos (Nat.pow_pos (by omega)) (Nat.pow_pos (by omega))
    ·exact Nat.lt_of_lt_of_le (Nat.mul_lt_mul_of_pos_right hap h0) (Nat.mul_le_mul_left _ (Nat.le_of_lt hbp))) (Nat.le_refl _) hz] at hz
   exact hz
  repeat' first|refine Kz ?_|intro _
  refine Tri.loop (ι:=Nat × List Nat × Nat) (fun s=>s.1≤(mag b).length∧s.2.1.length=(mag a).length+(mag b).length∧(∀ x∈s.2.1,x < 1000000000)∧s.2.2 < 1000000000∧s.2.1[i+(mag b).length]?=some 0∧valB s.2.1+1000000000 ^ (i+s.1) * s.2.2=valB ((mag a).take i) * b+1000000000 ^ i * d * valB ((mag b).take s.1)) (fun s=>(mag b).length - s.1)
   (fun s=>[(1,o),(5,sv),(6,.int .i64 (i:Int)),(7,.int .u32 (d:Int)),(8,.int .u64 (s.2.2:Int)),(17,v),(18,.int .i64 (mag a).length),(19,.int .i64 (i:Int)),(24,o),(25,.int .i64 (mag b).length),(26,.int .i64 (s.1:Int))]) (fun s=>.ow (cN .u32) 226 sv s.2.1::As)
   (0,xs,0) ⟨by omega,hxl,hxs,by simp only;omega,hxz,by simp [valB,hval]⟩ Zad Zaa ?_
  rintro ⟨j,ys,c⟩ ⟨hj,hyl,hys,hc9,hyz,hyv⟩
  simp only at hj hyl hys hc9 hyz hyv
  show Tri _ _ _ _ [(1,o),(5,sv),(6,.int .i64 (i:Int)),(7,.int .u32 (d:Int)),(8,.int .u64 (c:Int)),(17,v),(18,_),(19,.int .i64 (i:Int)),(24,o),(25,_),(26,.int .i64 (j:Int))] (.ow (cN .u32) 226 sv ys::As) _
  repeat' first|refine Kz ?_|intro _
  (refine Kx (fun hc=>?_) fun hc=>?_)
  ·obtain ⟨ee,he⟩:∃ ee,(mag b)[j]?=some ee:=⟨_,List.getElem?_eq_getElem (by omega)⟩
   have he9:=hsb ee (List.mem_of_getElem? he)
   have htb:=Za4 he
   obtain ⟨p,hp⟩:∃ p,ys[i+j]?=some p:=⟨_,List.getElem?_eq_getElem (by omega)⟩
   have hp9:=hys p (List.mem_of_getElem? hp)
   have hlim:=Zjy hd9 he9 hc9 hp9
   have hij:((i:Int)+(j:Int))=((i+j:Nat):Int):=by omega
   have hde:(d:Int) * (ee:Int)=((d * ee:Nat):Int):=(Int.natCast_mul d ee).symm
   repeat' first|refine Kz ?_|intro _
   refine Post.round (j+1,ys.set (i+j) ((c+(p+d * ee)) % 1000000000),(c+(p+d * ee)) / 1000000000) ⟨by simp only;omega,by simpa using hyl,Zbh hys (by omega),by simp only;omega,?_,?_⟩ (by simp only;omega) Zad (Ents.refl _)
   ·simp only
    rw [List.getElem?_set_ne (by omega)]
    exact hyz
   ·simp only
    have h1:=Zlc (Zei (g:=(c+(p+d * ee)) % 1000000000) hp) (show c+(p+d * ee)=c+p+d * ee by omega) hyv
    rw [show i+(j+1)=(i+j)+1 by omega,Nat.pow_succ,h1,htb,Nat.mul_add,Nat.pow_add,Nat.add_assoc]
    congr 2
    simp only [Nat.mul_assoc,Nat.mul_left_comm]
  ·have hje:j=(mag b).length:=by omega
   subst hje
   rw [Zat (Nat.le_refl _),Zbn] at hyv
   repeat' first|refine Kz ?_|intro _
   refine Post.round (i+1,ys.set (i+(mag b).length) c) ⟨by simp only;omega,by simpa using hyl,Zbh hys hc9,?_⟩ (by simp only;omega) Zad Zaa
   simp only
   have h1:=Zei (g:=c) hyz
   rw [hta,Nat.add_mul]
   omega
 ·have hie:i=(mag a).length:=by omega
  rw [Zat (by omega),Zbn] at hval
  repeat' first|refine Kz ?_|intro _
  refine TL.ents Ents.freeze ?_
  refine TL.call rfl rfl rfl (Zel hxs (by omega)) ?_
  rintro _ _ ⟨p,cap,rfl,rfl⟩
  rw [hval]
  repeat' first|refine Kz ?_|intro _
  (refine Zac ?_)
  exact ⟨_,⟨p,cap,rfl,rfl⟩,Zaa⟩
def ShortR (As:List Ent) (q r:Nat) (u:Value) (Bs:List Ent):Prop:=∃ p cap,u=.tuple #[.slice p (mag q).length cap,.int .u32 (r:Int)]∧Bs=.ft (rd (cN .u32) (.slice p (mag q).length cap) (mag q))::As
end Go.Proofs.YtciadfpomkdlnaaGreatDoor
namespace Go.Proofs.YtciadfpomkdlnaaGreatDoor
open Go Go.Sx
variable {w0:World} {As:List Ent}
def RedR (As:List Ent) (vu:Value) (us:List Nat) (lo b:Nat) (r:Value) (Bs:List Ent):Prop:=∃ us':List Nat,r=.int .u32 ((valB (us.drop lo) / b:Nat):Int)∧us'.length=us.length∧(∀ x∈us',x < 1000000000)∧valB (us'.drop lo)=valB (us.drop lo) % b∧us'.take lo=us.take lo∧Bs=.ow (cN .u32) 226 vu us'::As
end Go.Proofs.YtciadfpomkdlnaaGreatDoor
namespace Go.Proofs.YtciadfpomkdlnaaGreatDoor
open Go Go.Sx
variable {w0:World} {As:List Ent}
def DivR (As:List Ent) (q r:Nat) (u:Value) (Bs:List Ent):Prop:=∃ p cap p' cap',u=.tuple #[.slice p (mag q).length cap,.slice p' (mag r).length cap']∧Bs=.ft (rd (cN .u32) (.slice p (mag q).length cap) (mag q))::.ft (rd (cN .u32) (.slice p' (mag r).length cap') (mag r))::As
theorem Z2k {b:Nat} (h:(mag b).length=1):b < 1000000000∧(mag b)[0]?=some b:=by
 have h1:=Zak b
 rw [h,Nat.pow_one] at h1
 refine ⟨h1,?_⟩
 have hb:b≠0:=fun h0=>by rw [h0,Zas] at h;cases h
 rw [Zd8 hb,List.getElem?_cons_zero,Nat.mod_eq_of_lt h1]
theorem Zck {s:Nat} (h0:0 < s) (h:s < 1000000000):mag s=[s]:=by
 rw [Zd8 (by omega),Nat.mod_eq_of_lt h,Nat.div_eq_of_lt h,Zas]
end Go.Proofs.YtciadfpomkdlnaaGreatDoor
namespace Go.Sx
open Go
theorem Zk5 (n:Nat):n < 10 ^ Lib.nDigits n:=by
 have h:=Zcf (l:=Lib.decDigits n) (Zep n)
 rwa [Ze9,Zaw] at h
theorem Zd7 (n:Nat):Lib.nDigits n≤9 * (mag n).length+1:=by
 by_cases h0:n=0
 ·subst h0;rw [Lib.nDigits_small (by decide)];omega
 ·have h3:(mag n).length≠0:=fun h=>h0 (Zr3.1 h)
  obtain ⟨d,hd⟩:∃ d,(mag n)[(mag n).length - 1]?=some d:=⟨_,List.getElem?_eq_getElem (by omega)⟩
  obtain ⟨k1,k2,k3⟩:=Zci hd
  have hl0:n / 1000000000 ^ ((mag n).length - 1+1)=0:=by
   rw [show (mag n).length - 1+1=(mag n).length by omega]
   exact Nat.div_eq_of_lt (Zak n)
  rw [Zb2 _ k2,k1,hl0,Nat.mul_zero,Nat.add_zero]
  have:=Zbi (k:=8) (r:=d) (by simpa using k3)
  omega
theorem Zeo (a b:Nat):(mag (a+b)).length≤max (mag a).length (mag b).length+1:=by
 refine Zcz ?_
 have h1:=Nat.lt_of_lt_of_le (Zak a) (Nat.pow_le_pow_right (n:=1000000000) (by omega) (Nat.le_max_left (mag a).length (mag b).length))
 have h2:=Nat.lt_of_lt_of_le (Zak b) (Nat.pow_le_pow_right (n:=1000000000) (by omega) (Nat.le_max_right (mag a).length (mag b).length))
 rw [Nat.pow_succ]
 omega
end Go.Sx
namespace Go.Proofs.YtciadfpomkdlnaaGreatDoor
open Go Go.Sx
variable {w0:World} {As:List Ent}
end Go.Proofs.YtciadfpomkdlnaaGreatDoor
namespace Go.Sx
open Go
theorem St.below {w0 w w':World} {As:List Ent} (h:St w0 w As) (hb:RowKit.Below w.heap.size w w'):St w0 w' As:=by
 obtain ⟨H,bs,g⟩:=h
 refine ⟨H,bs,Nat.le_trans g.size hb.size,hb.os.trans g.os,hb.tape.trans g.tape,hb.output.trans g.output,fun b o hbo=>?_,g.old,Sat.move (FH.le_refl H) g.sat fun b hm=>hb.block b (g.sat.lt b hm),g.nd,g.ap⟩
 have h1:=g.fz b o hbo
 rw [hb.block b (Array.getElem?_eq_some_iff.1 h1).1];exact h1
end Go.Sx
namespace Go.Proofs.YtciadfpomkdlnaaGreatDoor
open Go Go.Sx
variable {w0:World} {As:List Ent}
end Go.Proofs.YtciadfpomkdlnaaGreatDoor
namespace Go.Proofs.YtciadfpomkdlnaaGreatDoor
open Go Go.Sx
variable {w0:World} {As:List Ent}
theorem Zfg {s:List UInt8} (hs:s.length≤1000000000):CQ Tryz.prog w0 144 [.string ⟨s.toArray⟩] As (.int .i64 (checkW s)):=by
 refine Zab Tryz.func144 rfl Tryz.ntmps144 rfl ?_
 repeat' first|refine Kz ?_|intro _
 refine TL.call rfl rfl rfl (Zbb hs) ?_
 rintro _ _ ⟨p,cap,rfl,rfl⟩
 unfold checkW
 cases h1:readW s with
 | none =>
  repeat' first|refine Kz ?_|intro _
  exact Kv
 | some x =>
  repeat' first|refine Kz ?_|intro _
  exact Kv
end Go.Proofs.YtciadfpomkdlnaaGreatDoor
namespace Go.Proofs.YtciadfpomkdlnaaGreatDoor
open Go Go.Sx
variable {w0:World} {As:List Ent}
instance:IfT Tryz.prog 169:=⟨_,Tryz.underlying169⟩
def ErrR (w:World):Prop:=∃ ev,w.cell? ⟨5,0,none⟩=some ev∧(ev=.nilIface∨∃ te pe,ev=.iface te pe)
theorem ErrR.keep {w:World} (he:ErrR w0) (h:St w0 w As):ErrR w:=by
 obtain ⟨ev,h1,h2⟩:=he
 refine ⟨ev,?_,h2⟩
 simp only [World.cell?] at h1 ⊢
 cases ho:w0.heap[5]? with
 | none=>rw [ho] at h1;cases h1
 | some o=>rw [St.old h ho];rw [ho] at h1;exact h1
theorem Zfr {s:List UInt8} {z:Int} (hr:readW s=some z) (h:-9223372036854775808≤z∧z≤9223372036854775807) (hs:s.length≤1000000000) :
  CallsS Tryz.prog w0 196 [.string ⟨s.toArray⟩,.int .i64 10,.int .i64 64] As fun u Bs=>u=.tuple #[.int .i64 z,.nilIface]∧Bs=As :=
 CallsS.mk fun w hst=>(Tryz.strconv_ParseInt_10_at64_ok ⟨s.toArray⟩ (by show s.toArray.size≤_;simp;omega) z (by rw [show (⟨s.toArray⟩:ByteArray).data.toList=s from rfl,Zju hr,if_pos h]) w).mono fun en w' ⟨h1,h2⟩=>by
  refine ⟨_,As,h1,⟨rfl,rfl⟩,?_⟩
  rcases h2 with rfl|⟨t,rfl⟩
  ·exact hst
  ·exact hst.below (Lib.bytesWorld_below _ _ _)
theorem Zp9 (he:ErrR w0) {s:List UInt8} {z:Int} (hr:readW s=some z) (h:¬ (-9223372036854775808≤z∧z≤9223372036854775807)) (hs:s.length≤1000000000) :
  CallsS Tryz.prog w0 196 [.string ⟨s.toArray⟩,.int .i64 10,.int .i64 64] As fun u Bs=>(∃ n t p,u=.tuple #[.int .i64 n,.iface t p])∧Bs=As :=
 CallsS.mk fun w hst=>by
  obtain ⟨ev,h1,h2⟩:=he.keep hst
  refine (Tryz.strconv_ParseInt_10_at64_range ⟨s.toArray⟩ (by show s.toArray.size≤_;simp;omega) (by rw [show (⟨s.toArray⟩:ByteArray).data.toList=s from rfl,Zju hr,if_neg h]) ev w h1 h2).mono fun en w' ⟨N,k1,_,_,k4⟩=>?_
  exact ⟨_,As,k1,⟨⟨_,_,_,rfl⟩,rfl⟩,hst.below k4⟩
theorem Z4q (he:ErrR w0) {s:List UInt8} (hs:s.length≤1000000000):CQ Tryz.prog w0 131 [.string ⟨s.toArray⟩] As (.tuple #[.int .i64 (intW s).1,.int .i64 (intW s).2]):=by
 refine Zab Tryz.func131 rfl Tryz.ntmps131 rfl ?_
 repeat' first|refine Kz ?_|intro _
 refine Kt rfl (Zfg hs) ?_
 unfold intW checkW
 cases h1:readW s with
 | none =>
  simp only [Option.isSome_none,Bool.false_eq_true,if_false]
  repeat' first|refine Kz ?_|intro _
  exact Kv
 | some x =>
  simp only [Option.isSome_some,if_true]
  by_cases hx:-9223372036854775808≤x∧x≤9223372036854775807
  ·rw [if_pos hx]
   repeat' first|refine Kz ?_|intro _
   refine Kt rfl (Zfr h1 hx hs) ?_
   repeat' first|refine Kz ?_|intro _
   refine TL.f rfl rfl (Zui rfl) ?_
   repeat' first|refine Kz ?_|intro _
   exact Kv
  ·rw [if_neg hx]
   repeat' first|refine Kz ?_|intro _
   refine TL.call rfl rfl rfl (Zp9 he h1 hx hs) ?_
   rintro _ _ ⟨⟨n,t,p,rfl⟩,rfl⟩
   repeat' first|refine Kz ?_|intro _
   refine TL.f rfl rfl (Zrb rfl) ?_
   repeat' first|refine Kz ?_|intro _
   exact Kv
end Go.Proofs.YtciadfpomkdlnaaGreatDoor
namespace Go.Sx
open Go
end Go.Sx
namespace Go.Proofs.YtciadfpomkdlnaaGreatDoor
open Go Go.Sx
variable {w0:World} {As:List Ent}
end Go.Proofs.YtciadfpomkdlnaaGreatDoor
