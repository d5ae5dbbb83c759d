/- Walks: package patch: a number of a line, the first line. -/
import Derived.Test.YtciadfpomkdlnaaGreatDoorPw1
import Derived.Test.YtciadfpomkdlnaaGreatDoorSxX
import Derived.Test.YtciadfpomkdlnaaGreatDoorSxP
import Derived.Test.YtciadfpomkdlnaaGreatDoorCc7
import Derived.Test.YtciadfpomkdlnaaGreatDoorCc3
set_option maxHeartbeats 1000000
namespace Go.Proofs.YtciadfpomkdlnaaGreatDoor.Q
open Go Go.Sx
variable {w0:World} {As:List Ent}
instance:TwoS Tryz.prog 24:=⟨⟨_,_,_,_,(inferInstance:UL Tryz.prog 24 _).h,by decide,by decide,rfl,rfl,rfl,rfl,(inferInstance:UL Tryz.prog 22 .string).h,(inferInstance:UL Tryz.prog 22 .string).h⟩,by kernel_rfl,by kernel_rfl⟩
abbrev errM (n:Int):Value:=.iface 176 (.agg #[.int .i64 n])
theorem Ztm {w:List UInt8} {e:Int} (h:parseQ w=.inr e):e≠0:=by
 unfold parseQ parseP at h
 split at h
 ·split at h
  ·cases h;decide
  ·split at h
   ·cases h;decide
   ·split at h<;>cases h
    decide
 ·cases h;decide
theorem Z2e {r:Rat} (h:¬ Fit 600 r):(outF r).2.2≠0:=by
 unfold outF
 rw [if_neg]
 ·decide
 ·rintro ⟨h1,h2⟩
  refine h ⟨?_,?_⟩
  ·unfold outW at h1
   split at h1
   ·cases h1
   ·omega
  ·unfold outW at h2
   split at h2
   ·cases h2
   ·rw [Int.natAbs_natCast] at *;omega
theorem Zjz {z:Int} {d k:Nat} (hk:0 < k) (h0:d≠0) (h1:z.natAbs < 10 ^ k) (h2:d < 10 ^ k):Fit k (mkRat z d):=by
 obtain ⟨e1,e2⟩:=Zdd (n:=z) h0
 refine Fit.of hk ?_ ?_
 ·rw [e1];exact Nat.lt_of_le_of_lt (Int.natAbs_ediv_le_natAbs _ _) h1
 ·rw [e2];exact Nat.lt_of_le_of_lt (Nat.div_le_self _ _) h2
theorem Zmy {n:Int} {p:Nat} (hn:-2000000≤n∧n≤2000000) (hp:p≤10):Fit 600 (mkRat n (10 ^ p)):=by
 refine (Zjz (k:=11) (by decide) (Nat.pos_iff_ne_zero.1 (Nat.pow_pos (by decide))) (Nat.lt_of_le_of_lt (show n.natAbs≤2000000 by omega) (by decide)) ?_).mono (by decide)
 exact Nat.pow_lt_pow_right (by decide) (by omega)
theorem Zdc {w:List UInt8} {p:Nat} {lo hi:Int} (h:∀ r,parseQ w=.inl r→¬ (r=mkRat (nearQ r (10 ^ p)) (10 ^ p)∧lo≤nearQ r (10 ^ p)∧nearQ r (10 ^ p)≤hi)):valueP w p lo hi=none:=by
 unfold valueP
 cases hq:parseQ w with
 | inr e=>rfl
 | inl r=>exact if_neg (h r hq)
theorem Z1z {r s:Rat} (hr:Fit 600 r) (hs:Fit 600 s) (h1:tN r=tN s) (h2:tD r=tD s):r=s:=by
 have a:=hr.rd
 rw [h1,h2,hs.rd] at a
 exact (Option.some.inj a).symm
set_option maxRecDepth 100000 in
set_option maxHeartbeats 4000000 in
theorem Ziv (ht:Tab w0) (he:ErrR w0) (hm:LenR w0) {line:Int} {w:List UInt8} {p:Nat} {lo hi:Int} (hw:w.length≤1000000000) (hp:p≤10) (hlo:-2000000≤lo) (hhi:hi≤2000000) :
  CallsE Tryz.prog w0 180 [.int .i64 line,.string ⟨w.toArray⟩,.int .i64 (p:Int),.int .i64 lo,.int .i64 hi] As (fun u Bs=>∃ n,valueP w p lo hi=some n∧u=.int .i64 n∧Bs=As) (fun v Bs=>valueP w p lo hi=none∧v=errM line∧Bs=As):=by
 refine Zcr Tryz.func180 rfl Tryz.ntmps180 rfl ?_
 have hT:∀ k:Nat,k≤10→(1:Int)≤(10:Int) ^ k∧(10:Int) ^ k≤10000000000:=by
  intro k hk
  have e:((10:Int) ^ k)=((10 ^ k:Nat):Int):=by simp
  have h1:10 ^ k≤10 ^ 10:=Nat.pow_le_pow_right (by decide) hk
  have h2:0 < 10 ^ k:=Nat.pow_pos (by decide)
  rw [e]
  have h3:(10:Nat) ^ 10=10000000000:=by decide
  omega
 repeat' first|refine Kz ?_|intro _
 refine Tri.midB (fun e' As'=>e'=[(0,.int .i64 line),(1,.string ⟨w.toArray⟩),(3,.int .i64 lo),(4,.int .i64 hi),(11,.int .i64 ((10:Int) ^ p))]∧As'=As) ?_ ?_
 ·refine Tri.loop (ι:=Nat) (fun k=>k≤p) (fun k=>p - k) (fun k=>[(0,.int .i64 line),(1,.string ⟨w.toArray⟩),(3,.int .i64 lo),(4,.int .i64 hi),(11,.int .i64 ((10:Int) ^ k)),(16,.int .i64 (p:Int)),(17,.int .i64 (k:Int))]) (fun _=>As) 0 (Nat.zero_le _) (by show Go.Sx.Sub _ [(0,.int .i64 line),(1,.string ⟨w.toArray⟩),(3,.int .i64 lo),(4,.int .i64 hi),(11,.int .i64 1),(16,.int .i64 (p:Int)),(17,.int .i64 0)];(exact Zad)) Zaa ?_
  intro k hk
  have hTk:=hT k (by omega)
  have hs:(10:Int) ^ (k+1)=(10:Int) ^ k * 10:=Int.pow_succ _ _
  by_cases hlt:(k:Int) < (p:Int)
  ·generalize (10:Int) ^ k=T at hTk hs ⊢
   repeat' first|refine Kz ?_|intro _
   refine Post.round (k+1) (by omega) (by omega) (by show Go.Sx.Sub _ [(0,.int .i64 line),(1,.string ⟨w.toArray⟩),(3,.int .i64 lo),(4,.int .i64 hi),(11,.int .i64 ((10:Int) ^ (k+1))),(16,.int .i64 (p:Int)),(17,.int .i64 ((k+1:Nat):Int))];rw [hs];(exact Zad)) Zaa
  ·obtain rfl:k=p:=by omega
   repeat' first|refine Kz ?_|intro _
   exact Post.cut _ _ ⟨rfl,rfl⟩ Zad Zaa
 rintro _ _ ⟨rfl,rfl⟩
 have hTp:=hT p hp
 have hTn:((10:Int) ^ p).toNat=10 ^ p:=by
  have e:((10:Int) ^ p)=((10 ^ p:Nat):Int):=by simp
  rw [e,Int.toNat_natCast]
 clear hT
 obtain ⟨T,hTT⟩:∃ T,(10:Int) ^ p=T:=⟨_,rfl⟩
 rw [hTT] at hTp hTn ⊢
 repeat' first|refine Kz ?_|intro _
 refine TL.callv rfl rfl rfl rfl (Zvx ht hm hw) ?_
 rintro _ As ⟨rfl,rfl⟩
 cases hq:parseQ w with
 | inr e =>
  have hne:=Ztm hq
  have hv:valueP w p lo hi=none:=Zdc fun r h=>by rw [hq] at h;cases h
  rw [show parseO (.inr e)=([],[],e) from rfl]
  repeat' first|refine Kz ?_|intro _
  refine TL.f rfl rfl (Zaq rfl rfl) ?_
  refine TL.panic rfl rfl ?_
  repeat' first|refine Kz ?_|intro _
  exact Zan rfl ⟨_,⟨hv,rfl,rfl⟩,Zaa⟩
 | inl r =>
  by_cases hf:Fit 600 r
  ·rw [show parseO (.inl r)=(tN r,tD r,0) from hf.ot]
   repeat' first|refine Kz ?_|intro _
   refine TL.callv rfl rfl rfl rfl (Zi6 ht he (r:=r) (k:=T) hf) ?_
   rintro _ As ⟨rfl,rfl⟩
   have hnear:nearO (some r) T=if -9223372036854775808≤nearQ r (10 ^ p)∧nearQ r (10 ^ p)≤9223372036854775807 then (nearQ r (10 ^ p),0) else (0,6):=by
    unfold nearO
    simp only
    rw [if_pos ⟨hTp.1,by omega⟩,hTn]
   rw [hnear]
   by_cases hr:lo≤nearQ r (10 ^ p)∧nearQ r (10 ^ p)≤hi
   ·rw [if_pos ⟨by omega,by omega⟩]
    have hofr:ofO (nearQ r (10 ^ p)) T=(tN (mkRat (nearQ r (10 ^ p)) (10 ^ p)),tD (mkRat (nearQ r (10 ^ p)) (10 ^ p)),0):=by
     unfold ofO
     rw [if_neg (by omega),if_neg (by omega),show T.natAbs=10 ^ p by rw [← hTn];omega]
     exact (Zmy (by omega) hp).ot
    have hfm:=Zmy (n:=nearQ r (10 ^ p)) (p:=p) (by omega) hp
    have hsome:r=mkRat (nearQ r (10 ^ p)) (10 ^ p)→valueP w p lo hi=some (nearQ r (10 ^ p)):=fun h=>by
     unfold valueP;rw [hq];simp only;rw [if_pos ⟨h,hr.1,hr.2⟩]
    have hnone:¬ r=mkRat (nearQ r (10 ^ p)) (10 ^ p)→valueP w p lo hi=none:=fun h=>Zdc fun s hs=>by
     rw [hq] at hs;cases hs;exact fun k=>h k.1
    generalize nearQ r (10 ^ p)=n at *
    have k1:¬ n < lo:=by omega
    have k2:¬ hi < n:=by omega
    repeat' first|refine Kz ?_|intro _
    refine TL.callv rfl rfl rfl rfl (Zjx ht (n:=n) (d:=T) (by omega) (by omega)) ?_
    rw [hofr]
    rintro _ As ⟨rfl,rfl⟩
    repeat' first|refine Kz ?_|intro _
    refine TL.f rfl rfl (Zyg rfl rfl) ?_
    by_cases hrm:r=mkRat n (10 ^ p)
    ·have hs:=hsome hrm
     rw [decide_eq_true (show tN (mkRat n (10 ^ p))=tN r∧tD (mkRat n (10 ^ p))=tD r from by rw [← hrm];exact ⟨rfl,rfl⟩)]
     repeat' first|refine Kz ?_|intro _
     refine Zo6 ?_
     (refine Zac ?_)
     exact ⟨_,⟨n,hs,rfl,rfl⟩,Zaa⟩
    ·have hs:=hnone hrm
     rw [decide_eq_false (show ¬ (tN (mkRat n (10 ^ p))=tN r∧tD (mkRat n (10 ^ p))=tD r) from fun h=>hrm (Z1z hf hfm h.1.symm h.2.symm))]
     repeat' first|refine Kz ?_|intro _
     refine TL.f rfl rfl (Zaq rfl rfl) ?_
     refine TL.panic rfl rfl ?_
     repeat' first|refine Kz ?_|intro _
     exact Zan rfl ⟨_,⟨hs,rfl,rfl⟩,Zaa⟩
   ·have hv:valueP w p lo hi=none:=Zdc fun s h=>by
     rw [hq] at h;cases h;exact fun k=>hr ⟨k.2.1,k.2.2⟩
    generalize nearQ r (10 ^ p)=n at *
    by_cases h64:-9223372036854775808≤n∧n≤9223372036854775807
    ·rw [if_pos h64]
     by_cases k1:n < lo
     ·repeat' first|refine Kz ?_|intro _
      refine TL.f rfl rfl (Zaq rfl rfl) ?_
      refine TL.panic rfl rfl ?_
      repeat' first|refine Kz ?_|intro _
      exact Zan rfl ⟨_,⟨hv,rfl,rfl⟩,Zaa⟩
     ·have k2:hi < n:=by omega
      repeat' first|refine Kz ?_|intro _
      refine TL.f rfl rfl (Zaq rfl rfl) ?_
      refine TL.panic rfl rfl ?_
      repeat' first|refine Kz ?_|intro _
      exact Zan rfl ⟨_,⟨hv,rfl,rfl⟩,Zaa⟩
    ·rw [if_neg h64]
     repeat' first|refine Kz ?_|intro _
     refine TL.f rfl rfl (Zaq rfl rfl) ?_
     refine TL.panic rfl rfl ?_
     repeat' first|refine Kz ?_|intro _
     exact Zan rfl ⟨_,⟨hv,rfl,rfl⟩,Zaa⟩
  ·have hne:=Z2e hf
   have hv:valueP w p lo hi=none:=Zdc fun s h k=>by
    rw [hq] at h;cases h
    refine hf ?_
    rw [k.1]
    exact Zmy (by omega) hp
   rw [show parseO (.inl r)=outF r from rfl]
   generalize outF r=O at hne ⊢
   obtain ⟨o1,o2,o3⟩:=O
   simp only at hne ⊢
   repeat' first|refine Kz ?_|intro _
   refine TL.f rfl rfl (Zaq rfl rfl) ?_
   refine TL.panic rfl rfl ?_
   repeat' first|refine Kz ?_|intro _
   exact Zan rfl ⟨_,⟨hv,rfl,rfl⟩,Zaa⟩
def cW:Cod (List UInt8):=⟨1,fun s=>[.string ⟨s.toArray⟩],fun _=>rfl,fun s v hv=>by
 rw [List.mem_singleton.1 hv];rfl⟩
instance {s:List UInt8}:EncL cW s [.string ⟨s.toArray⟩]:=⟨rfl⟩
set_option maxRecDepth 100000 in
theorem Zwl {line:Int} {v:Value} {ws:List (List UInt8)} [hr:RdIn As v (List UInt8) cW ws] (hl:ws.length≤1000000000) (hs:∀ w∈ws,w.length≤1000000000) :
  CallsE Tryz.prog w0 101 [.int .i64 line,v] As (fun u Bs=>∃ n:Nat,headP ws=some n∧u=.int .i64 (n:Int)∧Bs=As) (fun u Bs=>headP ws=none∧u=errM line∧Bs=As):=by
 refine Zcr Tryz.func101 rfl Tryz.ntmps101 rfl ?_
 rcases ws with _|⟨w1,_|⟨w2,_|⟨w3,ws⟩⟩⟩
 ·repeat' first|refine Kz ?_|intro _
  refine TL.f rfl rfl (Zaq rfl rfl) ?_
  refine TL.panic rfl rfl ?_
  repeat' first|refine Kz ?_|intro _
  exact Zan rfl ⟨_,⟨rfl,rfl,rfl⟩,Zaa⟩
 ·repeat' first|refine Kz ?_|intro _
  refine TL.f rfl rfl (Zaq rfl rfl) ?_
  refine TL.panic rfl rfl ?_
  repeat' first|refine Kz ?_|intro _
  exact Zan rfl ⟨_,⟨rfl,rfl,rfl⟩,Zaa⟩
 ·have hb1:=hs w1 (by simp)
  have hb2:=hs w2 (by simp)
  have he1:([w1,w2]:List (List UInt8))[0]?=some w1:=rfl
  have he2:([w1,w2]:List (List UInt8))[1]?=some w2:=rfl
  have hlen:([w1,w2]:List (List UInt8)).length=2:=rfl
  have hN:¬ (w1=[112,97,116,99,104,101,115]∧w2.length=1)→headP [w1,w2]=none:=fun h=>by
   rcases w2 with _|⟨c,_|⟨d,w2⟩⟩
   ·rfl
   ·exact if_neg (fun k=>h ⟨k.1,rfl⟩)
   ·rfl
  have hC:∀ c,w1=[112,97,116,99,104,101,115]→w2=[c]→headP [w1,w2]=if 49≤c.toNat∧c.toNat≤52 then some (c.toNat - 48) else none:=fun c h k=>by
   rw [h,k]
   show (if wPatches=wPatches∧49≤c.toNat∧c.toNat≤52 then some (c.toNat - 48) else none)=_
   by_cases hc:49≤c.toNat∧c.toNat≤52
   ·rw [if_pos hc,if_pos ⟨rfl,hc⟩]
   ·rw [if_neg hc,if_neg (fun z=>hc z.2)]
  generalize headP [w1,w2]=R at hN hC ⊢
  generalize ([w1,w2]:List (List UInt8))=ws at he1 he2 hlen hr ⊢
  by_cases h1:w1=[112,97,116,99,104,101,115]
  ·by_cases h2:w2.length=1
   ·obtain ⟨c,rfl⟩:∃ c,w2=[c]:=by
     rcases w2 with _|⟨c,_|⟨d,w2⟩⟩
     ·simp at h2
     ·exact ⟨c,rfl⟩
     ·simp at h2
    have hR:=hC c h1 rfl
    clear hC hN
    have hc256:=UInt8.toNat_lt c
    repeat' first|refine Kz ?_|intro _
    refine TL.f rfl rfl (Zky (i:=0) (c:=c) rfl rfl rfl) ?_
    by_cases k1:49≤c.toNat
    ·by_cases k2:c.toNat≤52
     ·rw [if_pos ⟨k1,k2⟩] at hR
      repeat' first|refine Kz ?_|intro _
      refine Zo6 ?_
      (refine Zac ?_)
      exact ⟨_,⟨c.toNat - 48,hR,by congr 1;omega,rfl⟩,Zaa⟩
     ·rw [if_neg (fun h=>k2 h.2)] at hR
      repeat' first|refine Kz ?_|intro _
      refine TL.f rfl rfl (Zaq rfl rfl) ?_
      refine TL.panic rfl rfl ?_
      repeat' first|refine Kz ?_|intro _
      exact Zan rfl ⟨_,⟨hR,rfl,rfl⟩,Zaa⟩
    ·rw [if_neg (fun h=>k1 h.1)] at hR
     repeat' first|refine Kz ?_|intro _
     refine TL.f rfl rfl (Zaq rfl rfl) ?_
     refine TL.panic rfl rfl ?_
     repeat' first|refine Kz ?_|intro _
     exact Zan rfl ⟨_,⟨hR,rfl,rfl⟩,Zaa⟩
   ·have hR:=hN (fun h=>h2 h.2)
    repeat' first|refine Kz ?_|intro _
    refine TL.f rfl rfl (Zaq rfl rfl) ?_
    refine TL.panic rfl rfl ?_
    repeat' first|refine Kz ?_|intro _
    exact Zan rfl ⟨_,⟨hR,rfl,rfl⟩,Zaa⟩
  ·have hR:=hN (fun h=>h1 h.1)
   repeat' first|refine Kz ?_|intro _
   refine TL.f rfl rfl (Zaq rfl rfl) ?_
   refine TL.panic rfl rfl ?_
   repeat' first|refine Kz ?_|intro _
   exact Zan rfl ⟨_,⟨hR,rfl,rfl⟩,Zaa⟩
 ·repeat' first|refine Kz ?_|intro _
  refine TL.f rfl rfl (Zaq rfl rfl) ?_
  refine TL.panic rfl rfl ?_
  repeat' first|refine Kz ?_|intro _
  exact Zan rfl ⟨_,⟨by rcases w2 with _|⟨c,_|⟨d,w2⟩⟩<;>rfl,rfl,rfl⟩,Zaa⟩
end Go.Proofs.YtciadfpomkdlnaaGreatDoor.Q
namespace Go.Sx
open Go
section
variable {As:List Ent}
def devPF (L:List RawP):PF:=⟨fun H=>∀ r∈L,Rdb H (cI .i64) (.slice r.p r.dev.length r.c) r.dev,fun H H' hle h r hr=>(rd (cI .i64) (.slice r.p r.dev.length r.c) r.dev).mono H H' hle (h r hr)⟩
theorem Zc5 {L:List RawP} (h:Ent.ft (devPF L)∈As):∀ r∈L,RdIn As (.slice r.p r.dev.length r.c) Int (cI .i64) r.dev:=fun r hr=>⟨fun w0 w hs=>by
 obtain ⟨H,bs,g⟩:=hs
 have h0:(devPF L).p H:=Sat.fact g.sat h
 have h1:=h0 r hr
 rcases h1 with h1|⟨b,off,cap,front,rest,T,fr,h1,h2,h3,h4⟩
 ·exact .inl h1
 ·exact .inr ⟨b,off,cap,front,rest,T,fr,h1,h2,h3,g.fz _ _ h4⟩⟩
theorem Zb6:Ents As (.ft (devPF [])::As):=fun w0 w ⟨H,bs,g⟩=>⟨H,bs,g.size,g.os,g.tape,g.output,g.fz,g.old,⟨fun r hr=>(by cases hr),g.sat⟩,g.nd,g.ap⟩
theorem Zey {L:List RawP} {r:RawP}:Ents (.ft (rd (cI .i64) (.slice r.p r.dev.length r.c) r.dev)::.ft (devPF L)::As) (.ft (devPF (L++[r]))::As):=fun w0 w ⟨H,bs,g⟩=>by
 obtain ⟨h1,h2,h3⟩:=g.sat
 refine ⟨H,bs,g.size,g.os,g.tape,g.output,g.fz,g.old,⟨fun x hx=>?_,h3⟩,g.nd,g.ap⟩
 rcases List.mem_append.1 hx with hx|hx
 ·exact h2 x hx
 ·rw [List.mem_singleton.1 hx];exact h1
end
end Go.Sx
namespace Go.Proofs.YtciadfpomkdlnaaGreatDoor.Q
open Go Go.Sx
variable {w0:World} {As:List Ent}
instance:ElC Tryz.prog 65 RawP cPt ⟨[],none,0,[],0,0,0⟩ 64:=⟨by obtain ⟨i,h1,h2,h3,h4⟩:=(inferInstance:TI Tryz.prog 65 _ _ _).info;exact ⟨i,_,h1,h2,h3,h4,rfl⟩,by decide⟩
def NmOk (M:List (List UInt8 × Bool)) (L:List RawP):Prop:=∀ s,mGet M s=if s∈L.map (·.nm) then some true else none
theorem NmOk.add {M:List (List UInt8 × Bool)} {L:List RawP} (h:NmOk M L) {r:RawP}:NmOk (mSet M r.nm true) (L++[r]):=fun s=>by
 rw [Zi7,h s,List.map_append]
 simp only [List.map_cons,List.map_nil,List.mem_append,List.mem_singleton]
 by_cases hs1:r.nm=s
 ·rw [if_pos hs1,if_pos (.inr hs1.symm)]
 ·rw [if_neg hs1]
  by_cases hs2:s∈L.map (·.nm)
  ·rw [if_pos hs2,if_pos (.inl hs2)]
  ·rw [if_neg hs2,if_neg (by rintro (h|h);exact hs2 h;exact hs1 h.symm)]
theorem Z2r {b5 bm ch:Nat} {en:Bool} {v:Value} {L:List RawP} {M:List (List UInt8 × Bool)} {nm:List UInt8} (hM:NmOk M L) (hl:nm.length≤1000000000) :
  CallsS Tryz.prog w0 179 [.pointer (some ⟨b5,0,none⟩),.string ⟨nm.toArray⟩] (.cl b5 [v,.map (some bm),.int .i64 (ch:Int),.bool en] 181::.ow cPt 65 v L::.ob bm (mapO cStr cBo M)::As) fun u Bs=>u=.bool (decide (L.length < 40∧namedP nm=true∧nm ∉ L.map (·.nm)))∧Bs=.cl b5 [v,.map (some bm),.int .i64 (ch:Int),.bool en] 181::.ow cPt 65 v L::.ob bm (mapO cStr cBo M)::As:=by
 have hMn:=hM nm
 refine Zab Tryz.func179 rfl Tryz.ntmps179 rfl ?_
 by_cases h1:(L.length:Int) < 40
 ·repeat' first|refine Kz ?_|intro _
  refine Kt rfl (Zrz hl) ?_
  cases hn:namedP nm with
  | false =>
   repeat' first|refine Kz ?_|intro _
   (refine Zac ?_)
   exact ⟨_,⟨by rw [decide_eq_false (fun h=>by cases h.2.1)],rfl⟩,Zaa⟩
  | true =>
   by_cases h2:nm∈L.map (·.nm)
   ·rw [if_pos h2] at hMn
    repeat' first|refine Kz ?_|intro _
    simp only
    repeat' first|refine Kz ?_|intro _
    (refine Zac ?_)
    exact ⟨_,⟨by rw [decide_eq_false (fun h=>h.2.2 h2)];rfl,rfl⟩,Zaa⟩
   ·rw [if_neg h2] at hMn
    repeat' first|refine Kz ?_|intro _
    simp only [hMn]
    rw [show (Option.map cBo none).getD (.bool false)=Value.bool false from rfl]
    repeat' first|refine Kz ?_|intro _
    (refine Zac ?_)
    exact ⟨_,⟨by rw [decide_eq_true ⟨by omega,by trivial,h2⟩];rfl,rfl⟩,Zaa⟩
 ·repeat' first|refine Kz ?_|intro _
  (refine Zac ?_)
  exact ⟨_,⟨by rw [decide_eq_false (fun h=>h1 (by omega))],rfl⟩,Zaa⟩
theorem Z0i {b5 bm ch:Nat} {en:Bool} {v:Value} {L:List RawP} {M:List (List UInt8 × Bool)} {nm:List UInt8} {p:Option Addr} {c:Nat} {dev:List Int} {l a b:Int} (hL:L.length≤1000) :
  CallsS Tryz.prog w0 181 [.pointer (some ⟨b5,0,none⟩),.agg #[.string ⟨nm.toArray⟩,.slice p dev.length c,.int .i64 l,.int .i64 a,.int .i64 b]] (.cl b5 [v,.map (some bm),.int .i64 (ch:Int),.bool en] 181::.ow cPt 65 v L::.ob bm (mapO cStr cBo M)::As) fun u Bs=>∃ v',u=.tuple #[]∧Bs=.cl b5 [v',.map (some bm),.int .i64 (ch:Int),.bool en] 181::.ow cPt 65 v' (L++[⟨nm,p,c,dev,l,a,b⟩])::.ob bm (mapO cStr cBo (mSet M nm true))::As:=by
 refine Zab Tryz.func181 rfl Tryz.ntmps181 rfl ?_
 repeat' first|refine Kz ?_|intro _
 rename_i b3
 refine Tri.mid (fun e' As'=>∃ v',e'=[(0,.pointer (some ⟨b5,0,none⟩)),(3,.pointer (some ⟨b3,0,none⟩))]∧As'=.cl b3 [.string ⟨nm.toArray⟩,.slice p dev.length c,.int .i64 l,.int .i64 a,.int .i64 b] 65::.cl b5 [v',.map (some bm),.int .i64 (ch:Int),.bool en] 181::.ow cPt 65 v' (L++[⟨nm,p,c,dev,l,a,b⟩])::.ob bm (mapO cStr cBo M)::As) ?_ ?_
 ·refine Zdz [.cl b3 [.string ⟨nm.toArray⟩,.slice p dev.length c,.int .i64 l,.int .i64 a,.int .i64 b] 65] [(4,.c b5)] (.take 0 (.take 1 (.take 2 (.take 3 (.take 4 (.take 5 (.all [(6,.all [(7,.take 8 (.take 9 (.all [(10,.done)])))])]))))))) ?_
  repeat' first|refine Kf ?_|intro _|constructor
  rename_i v1
  exact Post.cut _ _ ⟨v1,rfl,rfl⟩ Zad Zaa
 rintro _ _ ⟨v',rfl,rfl⟩
 repeat' first|refine Kz ?_|intro _
 refine Zao (.take 0 (.take 1 (.take 2 (.take 3 (.take 4 (.take 5 (.all [(6,.done)]))))))) ?_
 repeat' first|refine Kf ?_|intro _|constructor
 (refine Zac ?_)
 exact ⟨_,⟨v',rfl,rfl⟩,Zaa⟩
end Go.Proofs.YtciadfpomkdlnaaGreatDoor.Q
namespace Go.Sx
open Go
theorem Zk2 {As:List Ent} {α β:Type} {c:Cod α} {c':Cod β} {f:α→β} {T:TypeId} {v:Value} {xs:List α} (hn:c.n=c'.n) (he:∀ x,c.enc x=c'.enc (f x)):Ents (.ow c T v xs::As) (.ow c' T v (xs.map f)::As):=by
 rintro w0 w ⟨H,bs,g⟩
 have hfl:c'.flat (xs.map f)=c.flat xs:=by
  unfold Cod.flat
  rw [List.flatMap_map]
  exact congrArg (fun g=>List.flatMap g xs) (funext fun x=>(he x).symm)
 refine ⟨H,bs,g.size,g.os,g.tape,g.output,g.fz,g.old,?_,g.nd,g.ap⟩
 rcases g.sat with ⟨h1,h2,h3⟩|⟨b,bs',rfl,⟨off,cap,front,rest,h1,h2,h3,h4,h5⟩,hr⟩
 ·exact .inl ⟨h1,by rw [h2];rfl,h3⟩
 ·exact .inr ⟨b,bs',rfl,⟨off,cap,front,rest,by rw [List.length_map];exact h1,h2,by rw [List.length_map];exact h3,by rw [hfl,← hn];exact h4,by rw [hfl];exact h5⟩,hr⟩
end Go.Sx
namespace Go.Proofs.YtciadfpomkdlnaaGreatDoor.Q
open Go Go.Sx
theorem Zt6 {l:List (List UInt8)} {w:List UInt8} {D:List Int} (h:devsP l=some D):devsP (l++[w])=(valueP w 4 0 10000).map fun n=>D++[n]:=by
 induction l generalizing D with
 | nil =>
  obtain rfl:D=[]:=(Option.some.inj h).symm
  show (match valueP w 4 0 10000,devsP [] with|some x,some xs=>some (x::xs)|_,_=>none)=_
  cases valueP w 4 0 10000<;>rfl
 | cons a l ih =>
  have h2:(match valueP a 4 0 10000,devsP l with|some x,some xs=>some (x::xs)|_,_=>none)=some D:=h
  show (match valueP a 4 0 10000,devsP (l++[w]) with|some x,some xs=>some (x::xs)|_,_=>none)=_
  cases ha:valueP a 4 0 10000 with
  | none=>rw [ha] at h2;cases h2
  | some x =>
   cases hl:devsP l with
   | none=>rw [ha,hl] at h2;cases h2
   | some xs =>
    rw [ha,hl] at h2
    rw [ih hl,← Option.some.inj h2]
    cases valueP w 4 0 10000<;>rfl
theorem Zt7 {l:List (List UInt8)} {w:List UInt8} (hw:w∈l) (h:valueP w 4 0 10000=none):devsP l=none:=by
 induction l with
 | nil=>cases hw
 | cons a l ih =>
  show (match valueP a 4 0 10000,devsP l with|some x,some xs=>some (x::xs)|_,_=>none)=_
  rcases List.mem_cons.1 hw with rfl|hw
  ·rw [h]
  ·rw [ih hw]
   cases valueP a 4 0 10000<;>rfl
variable {w0:World} {As:List Ent}
set_option maxRecDepth 100000 in
set_option maxHeartbeats 800000 in
theorem Zru (ht:Tab w0) (he:ErrR w0) (hm:LenR w0) {b5 bm ch:Nat} {en:Bool} {v v2:Value} {L:List RawP} {M:List (List UInt8 × Bool)} {line:Int} {ws:List (List UInt8)} [hr:RdIn As v2 (List UInt8) cW ws] (hch:1≤ch∧ch≤4) (hl:ws.length≤1000000000) (hs:∀ w∈ws,w.length≤1000000000) (hM:NmOk M L) (hL:L.length≤40) :
  CallsE Tryz.prog w0 102 [.pointer (some ⟨b5,0,none⟩),.int .i64 line,v2] (.cl b5 [v,.map (some bm),.int .i64 (ch:Int),.bool en] 181::.ow cPt 65 v L::.ob bm (mapO cStr cBo M)::.ft (devPF L)::As)
   (fun u Bs=>∃ (r:RawP) (v':Value),patchP ch (L.map ppOf) ws=some (ppOf r)∧u=.tuple #[]∧Bs=.cl b5 [v',.map (some bm),.int .i64 (ch:Int),.bool en] 181::.ow cPt 65 v' (L++[r])::.ob bm (mapO cStr cBo (mSet M r.nm true))::.ft (devPF (L++[r]))::As)
   (fun u Bs=>patchP ch (L.map ppOf) ws=none∧u=errM line∧Bs=.cl b5 [v,.map (some bm),.int .i64 (ch:Int),.bool en] 181::.ow cPt 65 v L::.ob bm (mapO cStr cBo M)::.ft (devPF L)::As):=by
 refine Zcr Tryz.func102 rfl Tryz.ntmps102 rfl ?_
 have hmap:L.map (fun x=>(ppOf x).1)=L.map (·.nm):=rfl
 by_cases h0:ws.length=ch+4
 ·obtain ⟨nm,wr,rfl⟩:∃ a r,ws=a::r:=by
   cases ws with
   | nil=>simp at h0
   | cons a r=>exact ⟨a,r,rfl⟩
  have hnm:=hs nm (by simp)
  have hw0:(nm::wr)[0]?=some nm:=rfl
  have hP:∀ x,patchP ch (L.map ppOf) (nm::wr)=x↔patchP ch (L.map ppOf) (nm::wr)=x:=fun _=>Iff.rfl
  have hPf:¬ (L.length < 40∧namedP nm=true∧nm ∉ L.map (·.nm))→patchP ch (L.map ppOf) (nm::wr)=none:=fun h=>by
   unfold patchP
   refine if_neg fun k=>h ⟨by have:=k.2.1;rwa [List.length_map] at this,k.2.2.1,?_⟩
   have:=k.2.2.2
   rwa [List.map_map] at this
  have hPt:L.length < 40∧namedP nm=true∧nm ∉ L.map (·.nm)→patchP ch (L.map ppOf) (nm::wr)=match devsP (wr.take ch),valueP ((nm::wr).getD (1+ch) []) 2 0 10000,valueP ((nm::wr).getD (1+ch+1) []) 2 (-12800) 12700,valueP ((nm::wr).getD (1+ch+2) []) 2 (-12800) 12700 with
    | some d,some l,some a,some b=>some (nm,d,l,a,b)
    | _,_,_,_=>none:=fun h=>by
   unfold patchP
   rw [if_pos ⟨h0,by rw [List.length_map];exact h.1,h.2.1,by rw [List.map_map];exact h.2.2⟩]
   rfl
  clear hP
  generalize patchP ch (L.map ppOf) (nm::wr)=R at hPf hPt ⊢
  have hwi:∀ i,i < ch+4→(nm::wr)[i]?=some ((nm::wr).getD i []):=fun i hi=>by
   rw [List.getD_eq_getElem?_getD,List.getElem?_eq_getElem (by omega)]
   rfl
  have hwd:∀ i,i < ch→wr[i]?=some ((nm::wr).getD (1+i) []):=fun i hi=>by
   have:=hwi (1+i) (by omega)
   rwa [Nat.add_comm 1 i,List.getElem?_cons_succ,Nat.add_comm i 1] at this
  have hgl:∀ i,((nm::wr).getD i []).length≤1000000000:=fun i=>by
   rw [List.getD_eq_getElem?_getD]
   cases hi:(nm::wr)[i]? with
   | none=>exact Nat.zero_le _
   | some w=>exact hs w (List.mem_of_getElem? hi)
  have hwl:wr.length=ch+3:=by simp at h0;omega
  generalize hwse:(nm::wr)=ws at *
  repeat' first|refine Kz ?_|intro _
  refine Zao (.take 0 (.take 1 (.take 2 (.take 3 (.take 4 (.take 5 (.take 6 (.take 7 (.take 8 (.take 9 (.take 10 (.take 11 (.take 12 (.take 13 (.take 14 (.take 15 (.all [(16,.take 17 (.take 18 (.done)))]))))))))))))))))) ?_
  repeat' first|refine Kf ?_|intro _|constructor
  refine Kw rfl (Z2r hM hnm) ?_
  by_cases hf:L.length < 40∧namedP nm=true∧nm ∉ L.map (·.nm)
  case neg =>
   rw [decide_eq_false hf]
   have hR:=hPf hf
   repeat' first|refine Kf ?_|intro _|constructor
   refine TL.f rfl rfl (Zaq rfl rfl) ?_
   refine TL.panic rfl rfl ?_
   repeat' first|refine Kz ?_|intro _
   exact Zan rfl ⟨_,⟨hR,rfl,rfl⟩,Zaa⟩
  case pos =>
   rw [decide_eq_true hf]
   have hR:=hPt hf
   clear hPf hPt
   repeat' first|refine Kf ?_|intro _|constructor
   refine Tri.mid (fun e' As'=>∃ (p:Option Addr) (c b6:Nat),e'=[(0,.pointer (some ⟨b5,0,none⟩)),(1,.int .i64 line),(2,v2),(6,.pointer (some ⟨b6,0,none⟩))]∧As'=.cl b6 [.string ⟨nm.toArray⟩,.slice p ch c,.int .i64 0,.int .i64 0,.int .i64 0] 65::.ow (cN .i64) 3 (.slice p ch c) (List.replicate ch 0)::.cl b5 [v,.map (some bm),.int .i64 (ch:Int),.bool en] 181::.ow cPt 65 v L::.ob bm (mapO cStr cBo M)::.ft (devPF L)::As) ?_ ?_
   ·refine Zao (.take 0 (.take 1 (.take 2 (.take 3 (.take 4 (.take 5 (.take 6 (.all [(7,.take 8 (.all [(9,.all [(10,.done)])])),(9,.all [(7,.take 8 (.all [(10,.done)]))])])))))))) ?_
    repeat' first|refine Kf ?_|intro _|constructor
    ·refine Zxm 40 rfl ?_
     rintro p c hv
     rw [List.length_replicate] at hv
     subst hv
     refine TT.take rfl rfl rfl (ExF.build (l:=[.string ⟨nm.toArray⟩,.slice p ch c,.int .i64 0,.int .i64 0,.int .i64 0]) rfl (fun w=>by kernel_rfl)) ?_
     repeat' first|refine Kf ?_|intro _|constructor
     rename_i b6
     exact Post.cut _ _ ⟨p,c,b6,rfl,rfl⟩ Zad Zaa
    ·refine Zxm 40 rfl ?_
     rintro p c hv
     rw [List.length_replicate] at hv
     subst hv
     refine TT.take rfl rfl rfl (ExF.build (l:=[.string ⟨nm.toArray⟩,.slice p ch c,.int .i64 0,.int .i64 0,.int .i64 0]) rfl (fun w=>by kernel_rfl)) ?_
     repeat' first|refine Kf ?_|intro _|constructor
     rename_i b6
     exact Post.cut _ _ ⟨p,c,b6,rfl,rfl⟩ Zad Zaa
   rintro _ _ ⟨p,c,b6,rfl,rfl⟩
   refine Stp.h ?_
   refine Tri.ents (Ents.trans (Ents.perm (List.Perm.swap ..)) (Ents.trans (Zk2 (c:=cN .i64) (c':=cI .i64) (f:=fun x:Nat=>(x:Int)) rfl (fun _=>rfl)) (Ents.perm (List.Perm.swap ..)))) ?_
   rw [List.map_replicate]
   show Tri _ _ _ _ _ (_::.ow _ _ _ (List.replicate ch (0:Int))::_) _
   repeat' first|refine Kz ?_|intro _
   refine Tri.midB (fun e' As'=>∃ D:List Int,(D.length=ch∧devsP (wr.take ch)=some D)∧e'=[(0,.pointer (some ⟨b5,0,none⟩)),(1,.int .i64 line),(2,v2),(6,.pointer (some ⟨b6,0,none⟩))]∧As'=.cl b6 [.string ⟨nm.toArray⟩,.slice p ch c,.int .i64 0,.int .i64 0,.int .i64 0] 65::.ow (cI .i64) 3 (.slice p ch c) D::.cl b5 [v,.map (some bm),.int .i64 (ch:Int),.bool en] 181::.ow cPt 65 v L::.ob bm (mapO cStr cBo M)::.ft (devPF L)::As) ?_ ?_
   ·refine Tri.loop (ι:=Nat × List Int) (fun x=>x.1≤ch∧x.2.length=x.1∧devsP (wr.take x.1)=some x.2) (fun x=>ch - x.1) (fun x=>[(0,.pointer (some ⟨b5,0,none⟩)),(1,.int .i64 line),(2,v2),(6,.pointer (some ⟨b6,0,none⟩)),(45,.int .i64 (ch:Int)),(46,.int .i64 (x.1:Int))]) (fun x=>.cl b6 [.string ⟨nm.toArray⟩,.slice p ch c,.int .i64 0,.int .i64 0,.int .i64 0] 65::.ow (cI .i64) 3 (.slice p ch c) (x.2++List.replicate (ch - x.1) (0:Int))::.cl b5 [v,.map (some bm),.int .i64 (ch:Int),.bool en] 181::.ow cPt 65 v L::.ob bm (mapO cStr cBo M)::.ft (devPF L)::As) (0,[]) ⟨Nat.zero_le _,rfl,rfl⟩ (by show Go.Sx.Sub _ [(0,.pointer (some ⟨b5,0,none⟩)),(1,.int .i64 line),(2,v2),(6,.pointer (some ⟨b6,0,none⟩)),(45,.int .i64 (ch:Int)),(46,.int .i64 0)];(exact Zad)) (by show Ents _ (.cl b6 [.string ⟨nm.toArray⟩,.slice p ch c,.int .i64 0,.int .i64 0,.int .i64 0] 65::.ow (cI .i64) 3 (.slice p ch c) (List.replicate ch (0:Int))::.cl b5 [v,.map (some bm),.int .i64 (ch:Int),.bool en] 181::.ow cPt 65 v L::.ob bm (mapO cStr cBo M)::.ft (devPF L)::As);(exact Zaa)) ?_
    rintro ⟨k,D⟩ ⟨hk,hD,hkD⟩
    show Tri _ _ _ _ [(0,.pointer (some ⟨b5,0,none⟩)),(1,.int .i64 line),(2,v2),(6,.pointer (some ⟨b6,0,none⟩)),(45,.int .i64 (ch:Int)),(46,.int .i64 (k:Int))] (.cl b6 [.string ⟨nm.toArray⟩,.slice p ch c,.int .i64 0,.int .i64 0,.int .i64 0] 65::.ow (cI .i64) 3 (.slice p ch c) (D++List.replicate (ch - k) (0:Int))::.cl b5 [v,.map (some bm),.int .i64 (ch:Int),.bool en] 181::.ow cPt 65 v L::.ob bm (mapO cStr cBo M)::.ft (devPF L)::As) _
    have hD':D.length=k:=hD
    have hk':k≤ch:=hk
    have hkD':devsP (wr.take k)=some D:=hkD
    clear hD hk hkD
    by_cases hlt:(k:Int) < (ch:Int)
    ·have hwk:=hwi (1+k) (by omega)
     have hdk:=hwd k (by omega)
     have hgk:=hgl (1+k)
     have hlw:1+k < ws.length:=by omega
     have htk:wr.take (k+1)=wr.take k++[ws.getD (1+k) []]:=by
      rw [List.take_add_one,hdk];rfl
     have hmem:ws.getD (1+k) []∈wr.take ch:=by
      refine List.mem_of_getElem? (i:=k) ?_
      rw [List.getElem?_take,if_pos (by omega)]
      exact hdk
     have hRn:valueP (ws.getD (1+k) []) 4 0 10000=none→R=none:=fun h=>by rw [hR,Zt7 hmem h]
     have hlen:(D++List.replicate (ch - k) (0:Int)).length=ch:=by rw [List.length_append,List.length_replicate];omega
     generalize ws.getD (1+k) []=w at *
     repeat' first|refine Kz ?_|intro _
     refine Zao (.take 0 (.take 1 (.take 2 (.take 3 (.take 4 (.take 5 (.take 6 (.take 7 (.take 8 (.all [(9,.take 10 (.all [(11,.done)]))])))))))))) ?_
     repeat' first|refine Kf ?_|intro _|constructor
     refine T1.callvE rfl rfl rfl rfl rfl (Ziv ht he hm (p:=4) hgk (by decide) (by decide) (by decide)) ?_ ?_
     ·rintro _ _ ⟨hv,rfl,rfl⟩
      have hR0:=hRn hv
      repeat' first|refine Kf ?_|intro _|constructor
      exact Zan rfl ⟨_,⟨hR0,rfl,rfl⟩,Zaa⟩
     ·rintro _ _ ⟨n,hv,rfl,rfl⟩
      have hset:(D++List.replicate (ch - k) (0:Int)).set k n=D++[n]++List.replicate (ch - (k+1)) 0:=by
       obtain ⟨m,hm⟩:∃ m,ch - k=m+1:=⟨ch - k - 1,by omega⟩
       rw [hm,show ch - (k+1)=m by omega,List.replicate_succ,← hD']
       simp
      have hsome:devsP (wr.take (k+1))=some (D++[n]):=by rw [htk,Zt6 hkD',hv];rfl
      repeat' first|refine Kf ?_|intro _|constructor
      refine Post.round (k+1,D++[n]) ⟨by show k+1≤ch;omega,by show (D++[n]).length=k+1;simp;omega,hsome⟩ (by show ch - (k+1) < ch - k;omega) (by show Go.Sx.Sub _ [(0,.pointer (some ⟨b5,0,none⟩)),(1,.int .i64 line),(2,v2),(6,.pointer (some ⟨b6,0,none⟩)),(45,.int .i64 (ch:Int)),(46,.int .i64 ((k+1:Nat):Int))];(exact Zad)) (by show Ents _ (.cl b6 [.string ⟨nm.toArray⟩,.slice p ch c,.int .i64 0,.int .i64 0,.int .i64 0] 65::.ow (cI .i64) 3 (.slice p ch c) (D++[n]++List.replicate (ch - (k+1)) (0:Int))::.cl b5 [v,.map (some bm),.int .i64 (ch:Int),.bool en] 181::.ow cPt 65 v L::.ob bm (mapO cStr cBo M)::.ft (devPF L)::As);rw [← hset];(exact Zaa))
    ·obtain rfl:k=ch:=by omega
     rw [Nat.sub_self,List.replicate_zero,List.append_nil]
     repeat' first|refine Kz ?_|intro _
     exact Post.cut _ _ ⟨D,⟨hD',hkD'⟩,rfl,rfl⟩ Zad Zaa
   rintro _ _ ⟨D,⟨hD,hkD⟩,rfl,rfl⟩
   repeat' first|refine Kz ?_|intro _
   have hq0:=hwi (1+ch) (by omega)
   have hq1:=hwi (1+ch+1) (by omega)
   have hq2:=hwi (1+ch+2) (by omega)
   have hg0:=hgl (1+ch)
   have hg1:=hgl (1+ch+1)
   have hg2:=hgl (1+ch+2)
   rw [hkD] at hR
   clear hwi hwd hgl
   generalize ws.getD (1+ch) []=w0' at *
   generalize ws.getD (1+ch+1) []=w1' at *
   generalize ws.getD (1+ch+2) []=w2' at *
   have hR0:valueP w0' 2 0 10000=none→R=none:=fun h=>by rw [hR,h]
   have hR1:valueP w1' 2 (-12800) 12700=none→R=none:=fun h=>by rw [hR,h];cases valueP w0' 2 0 10000<;>rfl
   have hR2:valueP w2' 2 (-12800) 12700=none→R=none:=fun h=>by rw [hR,h];cases valueP w0' 2 0 10000<;>cases valueP w1' 2 (-12800) 12700<;>rfl
   have hwlen:ws.length=ch+4:=h0
   refine Tri.midB (fun e' As'=>∃ l a b:Int,(valueP w0' 2 0 10000=some l∧valueP w1' 2 (-12800) 12700=some a∧valueP w2' 2 (-12800) 12700=some b)∧e'=[(0,.pointer (some ⟨b5,0,none⟩)),(1,.int .i64 line),(2,v2),(6,.pointer (some ⟨b6,0,none⟩))]∧As'=.cl b6 [.string ⟨nm.toArray⟩,.slice p ch c,.int .i64 l,.int .i64 a,.int .i64 b] 65::.ow (cI .i64) 3 (.slice p ch c) D::.cl b5 [v,.map (some bm),.int .i64 (ch:Int),.bool en] 181::.ow cPt 65 v L::.ob bm (mapO cStr cBo M)::.ft (devPF L)::As) ?_ ?_
   ·refine Zl6 4 ?_
    repeat' first|refine Kz ?_|intro _
    refine Ks rfl (Zhb (i:=0)) ?_
    rw [show limP 0=(0,10000) from rfl]
    repeat' first|refine Kz ?_|intro _
    rw [show (1+(ch:Int)+0)=((1+ch:Nat):Int) by omega]
    repeat' first|refine Kz ?_|intro _
    refine TL.callvE rfl rfl rfl rfl (Ziv ht he hm (p:=2) (w:=w0') hg0 (by decide) (by decide) (by decide)) ?_ ?_
    ·rintro _ _ ⟨hv,rfl,rfl⟩
     have hR0:=hR0 hv
     repeat' first|refine Kz ?_|intro _
     exact Zan rfl ⟨_,⟨hR0,rfl,rfl⟩,Zaa⟩
    rintro _ _ ⟨n0,hv0,rfl,rfl⟩
    repeat' first|refine Kz ?_|intro _
    refine Ks rfl (Zhb (i:=1)) ?_
    rw [show limP 1=(-12800,12700) from rfl]
    repeat' first|refine Kz ?_|intro _
    rw [show (1+(ch:Int)+(0+1))=((1+ch+1:Nat):Int) by omega]
    repeat' first|refine Kz ?_|intro _
    refine TL.callvE rfl rfl rfl rfl (Ziv ht he hm (p:=2) (w:=w1') hg1 (by decide) (by decide) (by decide)) ?_ ?_
    ·rintro _ _ ⟨hv,rfl,rfl⟩
     have hR0:=hR1 hv
     repeat' first|refine Kz ?_|intro _
     exact Zan rfl ⟨_,⟨hR0,rfl,rfl⟩,Zaa⟩
    rintro _ _ ⟨n1,hv1,rfl,rfl⟩
    repeat' first|refine Kz ?_|intro _
    refine Ks rfl (Zhb (i:=2)) ?_
    rw [show limP 2=(-12800,12700) from rfl]
    repeat' first|refine Kz ?_|intro _
    rw [show (1+(ch:Int)+(0+1+1))=((1+ch+2:Nat):Int) by omega]
    repeat' first|refine Kz ?_|intro _
    refine TL.callvE rfl rfl rfl rfl (Ziv ht he hm (p:=2) (w:=w2') hg2 (by decide) (by decide) (by decide)) ?_ ?_
    ·rintro _ _ ⟨hv,rfl,rfl⟩
     have hR0:=hR2 hv
     repeat' first|refine Kz ?_|intro _
     exact Zan rfl ⟨_,⟨hR0,rfl,rfl⟩,Zaa⟩
    rintro _ _ ⟨n2,hv2,rfl,rfl⟩
    repeat' first|refine Kz ?_|intro _
    exact Post.cut _ _ ⟨n0,n1,n2,⟨hv0,hv1,hv2⟩,rfl,rfl⟩ Zad Zaa
   rintro _ _ ⟨l,a,b,⟨hl0,hl1,hl2⟩,rfl,rfl⟩
   rw [hl0,hl1,hl2] at hR
   repeat' first|refine Kz ?_|intro _
   clear hR0 hR1 hR2
   subst hD
   refine Tri.ents (Bs:=.ow (cI .i64) 3 (.slice p D.length c) D::.cl b6 [.string ⟨nm.toArray⟩,.slice p D.length c,.int .i64 l,.int .i64 a,.int .i64 b] 65::.cl b5 [v,.map (some bm),.int .i64 (D.length:Int),.bool en] 181::.ow cPt 65 v L::.ob bm (mapO cStr cBo M)::.ft (devPF L)::As) Zaa ?_
   refine Tri.ents Ents.freeze ?_
   refine Tri.ents (Bs:=.ft (rd (cI .i64) (.slice p D.length c) D)::.ft (devPF L)::.cl b5 [v,.map (some bm),.int .i64 (D.length:Int),.bool en] 181::.ow cPt 65 v L::.ob bm (mapO cStr cBo M)::.cl b6 [.string ⟨nm.toArray⟩,.slice p D.length c,.int .i64 l,.int .i64 a,.int .i64 b] 65::As) Zaa ?_
   refine Tri.ents (Zey (r:=⟨nm,p,c,D,l,a,b⟩)) ?_
   refine Tri.ents (Bs:=.cl b5 [v,.map (some bm),.int .i64 (D.length:Int),.bool en] 181::.ow cPt 65 v L::.ob bm (mapO cStr cBo M)::.cl b6 [.string ⟨nm.toArray⟩,.slice p D.length c,.int .i64 l,.int .i64 a,.int .i64 b] 65::.ft (devPF (L++[⟨nm,p,c,D,l,a,b⟩]))::As) Zaa ?_
   refine Zdz [.cl b6 [.string ⟨nm.toArray⟩,.slice p D.length c,.int .i64 l,.int .i64 a,.int .i64 b] 65] [] (.take 0 (.take 1 (.take 2 (.take 3 (.all [(4,.done)]))))) ?_
   repeat' first|refine Kf ?_|intro _|constructor
   refine T1.call rfl rfl rfl rfl (Z0i (by omega)) ?_
   rintro _ _ ⟨v',rfl,rfl⟩
   repeat' first|refine Kf ?_|intro _|constructor
   refine Zio ?_
   (refine Zac ?_)
   exact ⟨_,⟨⟨nm,p,c,D,l,a,b⟩,v',hR,rfl,rfl⟩,Zaa⟩
 ·have hR:patchP ch (L.map ppOf) ws=none:=if_neg fun h=>h0 h.1
  repeat' first|refine Kz ?_|intro _
  refine Zao (.take 0 (.take 1 (.take 2 (.take 3 (.take 4 (.take 5 (.take 6 (.take 7 (.take 8 (.take 9 (.take 10 (.take 11 (.take 12 (.take 13 (.take 14 (.take 15 (.all [(16,.take 17 (.take 18 (.done)))]))))))))))))))))) ?_
  repeat' first|refine Kf ?_|intro _|constructor
  refine TL.f rfl rfl (Zaq rfl rfl) ?_
  refine TL.panic rfl rfl ?_
  repeat' first|refine Kz ?_|intro _
  exact Zan rfl ⟨_,⟨hR,rfl,rfl⟩,Zaa⟩
end Go.Proofs.YtciadfpomkdlnaaGreatDoor.Q
