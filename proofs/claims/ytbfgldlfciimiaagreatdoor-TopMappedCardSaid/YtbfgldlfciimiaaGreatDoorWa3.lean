/- Walks: magnitudes: the decimal digits, the text. -/
import Derived.Test.YtbfgldlfciimiaaGreatDoorWa1
import Derived.Test.YtbfgldlfciimiaaGreatDoorPl
set_option maxHeartbeats 1000000
namespace Go.Proofs.YtbfgldlfciimiaaGreatDoor
open Go Go.Sx
variable {w0:World} {As:List Ent}
theorem Zsr (ht:Tab w0) {b d wd:Nat} {p bv:Value} {bs:List UInt8} (hp:p=.pointer none∨p=.pointer (some ⟨b,0,none⟩)) (hd:d < 1000000000) (hw:wd≤9) (hl:bs.length≤900000000) :
  CallsS Tryz.prog w0 222 [.int .u32 (d:Int),.int .i64 (wd:Int),.pointer (some ⟨b,0,none⟩)] (.cl b [p,bv] 288::.ow cU8 5 bv bs::As)
   fun _ Bs=>Bld b (bs++(List.replicate (wd - Lib.nDigits d) 48++Lib.decDigits d)) As Bs:=by
 refine Zab Tryz.func222 rfl Tryz.ntmps222 rfl ?_
 repeat' first|refine Kz ?_|intro _
 refine TL.call rfl rfl rfl (Zmr ht (n:=(d:Int)) (by omega) (by omega)) ?_
 rintro _ As ⟨rfl,rfl⟩
 rw [Lib.itoa_nonneg]
 have hdl:=Zbm d
 have hdn:=Zbt (k:=8) (r:=d) (by simpa using hd)
 repeat' first|refine Kz ?_|intro _
 rw [hdl]
 refine Tri.loop (ι:=Nat × Value × Value) (fun s=>s.1≤wd - Lib.nDigits d∧(s.2.1=.pointer none∨s.2.1=.pointer (some ⟨b,0,none⟩))) (fun s=>wd - Lib.nDigits d - s.1)
  (fun s=>[(2,.pointer (some ⟨b,0,none⟩)),(5,.string ⟨(Lib.decDigits d).toArray⟩),(12,.int .i64 ((wd:Int) - (Lib.nDigits d:Int))),(13,.int .i64 (s.1:Int))])
  (fun s=>.cl b [s.2.1,s.2.2] 288::.ow cU8 5 s.2.2 (bs++List.replicate s.1 48)::As) (0,p,bv) ⟨by omega,hp⟩ Zad (by simp only [List.replicate_zero,List.append_nil];(exact Zaa)) ?_
 rintro ⟨k,p,bv⟩ ⟨hk,hp⟩
 simp only at hk hp
 show Tri _ _ _ _ [(2,_),(5,_),(12,_),(13,.int .i64 (k:Int))] (.cl b [p,bv] 288::.ow cU8 5 bv (bs++List.replicate k 48)::As) _
 repeat' first|refine Kz ?_|intro _
 (refine Kx (fun hc=>?_) fun hc=>?_)
 ·repeat' first|refine Kz ?_|intro _
  refine TL.call rfl rfl rfl (Zkm (c:=48) hp (by simp;omega)) ?_
  rintro _ _ ⟨rfl,p',bv',hp',rfl⟩
  repeat' first|refine Kz ?_|intro _
  refine Post.round (k+1,p',bv') ⟨by simp only;omega,hp'⟩ (by simp only;omega) Zad ?_
  simp only [List.replicate_succ',List.append_assoc]
  (exact Zaa)
 ·repeat' first|refine Kz ?_|intro _
  refine TL.call rfl rfl rfl (Zh2 hp (by simp;omega) (by omega)) ?_
  rintro _ _ ⟨p',bv',hp',rfl⟩
  repeat' first|refine Kz ?_|intro _
  (refine Zac ?_)
  have:k=wd - Lib.nDigits d:=by omega
  subst this
  exact ⟨_,⟨p',bv',hp',by rw [← List.append_assoc]⟩,Zaa⟩
theorem Zfw (ht:Tab w0) {v:Value} {n:Nat} [hr:RdIn As v Nat (cN .u32) (mag n)] (hl:(mag n).length≤1000) :
  CQ Tryz.prog w0 186 [v] As (.string ⟨(Lib.decDigits n).toArray⟩):=by
 refine Zab Tryz.func186 rfl Tryz.ntmps186 rfl ?_
 repeat' first|refine Kz ?_|intro _
 refine TL.call rfl rfl rfl Zc8 ?_
 rintro _ As ⟨rfl,rfl⟩
 repeat' first|refine Kz ?_|intro _
 (refine Kx (fun hc=>?_) fun hc=>?_)
 ·subst hc
  repeat' first|refine Kz ?_|intro _
  (refine Zac ?_)
  exact ⟨_,⟨by rw [Zb7 (by decide)];rfl,rfl⟩,Zaa⟩
 ·have h1:(mag n).length≠0:=fun h=>hc (Zxq.1 h)
  obtain ⟨d,hd⟩:∃ d,(mag n)[(mag n).length - 1]?=some d:=⟨_,List.getElem?_eq_getElem (by omega)⟩
  obtain ⟨g1,g2,g3⟩:=Zb5 hd
  repeat' first|refine Kz ?_|intro _
  rename_i b
  refine TL.ents (Za3 (T:=5) cU8) ?_
  refine Zhy (.cl b [.pointer none,.slice none 0 0] 288) ?_
  refine TL.callv rfl rfl rfl rfl (Zsr ht (wd:=0) (.inl rfl) g3 (by omega) (by simp)) ?_
  rintro _ _ ⟨p,bv,hp,rfl⟩
  have hlast:n / 1000000000 ^ ((mag n).length - 1+1)=0:=by
   rw [show (mag n).length - 1+1=(mag n).length by omega]
   exact Nat.div_eq_of_lt (Zai n)
  rw [hlast,Nat.mul_zero,Nat.add_zero] at g1
  have e0:([]:List UInt8)++(List.replicate (0 - Lib.nDigits d) 48++Lib.decDigits d)=Lib.decDigits (n / 1000000000 ^ ((mag n).length - 1)):=by rw [g1];simp
  rw [e0]
  repeat' first|refine Kz ?_|intro _
  have hbl:∀ q,q≤n→(Lib.decDigits q).length≤9001:=fun q hq=>by
   rw [Zbm]
   have h2:=Zah hq
   by_cases h0:q=0
   ·subst h0;rw [Lib.nDigits_small (by decide)];omega
   ·have h3:(mag q).length≠0:=fun h=>h0 (Zxq.1 h)
    obtain ⟨d',hd'⟩:∃ d,(mag q)[(mag q).length - 1]?=some d:=⟨_,List.getElem?_eq_getElem (by omega)⟩
    obtain ⟨k1,k2,k3⟩:=Zb5 hd'
    rw [Zck _ k2,k1]
    have hl0:q / 1000000000 ^ ((mag q).length - 1+1)=0:=by
     rw [show (mag q).length - 1+1=(mag q).length by omega]
     exact Nat.div_eq_of_lt (Zai q)
    rw [hl0,Nat.mul_zero,Nat.add_zero]
    have:=Zbt (k:=8) (r:=d') (by simpa using k3)
    omega
  refine Tri.loop (ι:=Nat × Value × Value) (fun s=>s.1≤(mag n).length - 1∧(s.2.1=.pointer none∨s.2.1=.pointer (some ⟨b,0,none⟩))∧n / 1000000000 ^ s.1≠0) (fun s=>s.1)
   (fun s=>[(0,v),(3,.pointer (some ⟨b,0,none⟩)),(4,.func (.func 222) #[] #[.pointer (some ⟨b,0,none⟩)]),(6,.int .i64 ((s.1:Int) - 1))])
   (fun s=>.cl b [s.2.1,s.2.2] 288::.ow cU8 5 s.2.2 (Lib.decDigits (n / 1000000000 ^ s.1))::As) ((mag n).length - 1,p,bv) ⟨Nat.le_refl _,hp,g2⟩ Zad Zaa ?_
  rintro ⟨j,p,bv⟩ ⟨hj,hp,hj0⟩
  simp only at hj hp hj0
  show Tri _ _ _ _ [(0,v),(3,_),(4,_),(6,.int .i64 ((j:Int) - 1))] (.cl b [p,bv] 288::.ow cU8 5 bv (Lib.decDigits (n / 1000000000 ^ j))::As) _
  have hlj:=hbl (n / 1000000000 ^ j) (Nat.div_le_self _ _)
  cases j with
  | zero =>
   rw [show ((0:Nat):Int) - 1=-1 from rfl]
   repeat' first|refine Kz ?_|intro _
   refine TL.call rfl rfl rfl (Zsa (by intro h;have:=congrArg List.length h;rw [Zbm] at this;have:=Zdn (n / 1000000000 ^ 0);simp at *;omega) (by omega)) ?_
   rintro _ As ⟨rfl,rfl⟩
   repeat' first|refine Kz ?_|intro _
   (refine Zac ?_)
   exact ⟨_,⟨by simp,rfl⟩,Zaa⟩
  | succ j =>
   rw [show ((j+1:Nat):Int) - 1=(j:Int) by omega]
   obtain ⟨d',hd'⟩:∃ d,(mag n)[j]?=some d:=⟨_,List.getElem?_eq_getElem (by omega)⟩
   obtain ⟨k1,k2,k3⟩:=Zb5 hd'
   repeat' first|refine Kz ?_|intro _
   refine TL.callv rfl rfl rfl rfl (Zsr ht (wd:=9) hp k3 (by omega) (by omega)) ?_
   rintro _ _ ⟨p',bv',hp',rfl⟩
   rw [← Zm5 hj0 k3,← k1]
   repeat' first|refine Kz ?_|intro _
   exact Post.round (j,p',bv') ⟨by simp only;omega,hp',k2⟩ (by simp only;omega) Zad Zaa
theorem Zjf (ht:Tab w0) {v:Value} {n:Nat} [hr:RdIn As v Nat (cN .u32) (mag n)] (hl:(mag n).length≤1000000000) :
  CQ Tryz.prog w0 185 [v] As (.int .i64 (Lib.nDigits n)):=by
 refine Zab Tryz.func185 rfl Tryz.ntmps185 rfl ?_
 repeat' first|refine Kz ?_|intro _
 refine TL.call rfl rfl rfl Zc8 ?_
 rintro _ As ⟨rfl,rfl⟩
 repeat' first|refine Kz ?_|intro _
 (refine Kx (fun hc=>?_) fun hc=>?_)
 ·subst hc
  repeat' first|refine Kz ?_|intro _
  (refine Zac ?_)
  exact ⟨_,⟨by rw [Lib.nDigits_small (by decide)];rfl,rfl⟩,Zaa⟩
 ·have h1:(mag n).length≠0:=fun h=>hc (Zxq.1 h)
  obtain ⟨d,hd⟩:∃ d,(mag n)[(mag n).length - 1]?=some d:=⟨_,List.getElem?_eq_getElem (by omega)⟩
  obtain ⟨g1,g2,g3⟩:=Zb5 hd
  have hlast:n / 1000000000 ^ ((mag n).length - 1+1)=0:=by
   rw [show (mag n).length - 1+1=(mag n).length by omega]
   exact Nat.div_eq_of_lt (Zai n)
  rw [hlast,Nat.mul_zero,Nat.add_zero] at g1
  have hn:=Zck _ g2
  rw [g1] at hn
  have hdn:=Zbt (k:=8) (r:=d) (by simpa using g3)
  repeat' first|refine Kz ?_|intro _
  refine TL.call rfl rfl rfl (Zmr ht (n:=(d:Int)) (by omega) (by omega)) ?_
  rintro _ As ⟨rfl,rfl⟩
  rw [Lib.itoa_nonneg]
  have hdl:=Zbm d
  repeat' first|refine Kz ?_|intro _
  (refine Zac ?_)
  refine ⟨_,⟨?_,rfl⟩,Zaa⟩
  rw [hn,hdl]
  congr 1
  omega
theorem Zd7 (ht:Tab w0) {v:Value} {z:Int} [hr:RdIn As v Nat (cN .u32) (mag z.natAbs)] (hl:(mag z.natAbs).length≤1000000000) :
  CQ Tryz.prog w0 143 [.agg #[v,.bool (decide (z < 0))]] As (.tuple #[.string ⟨(outW z).1.toArray⟩,.int .i64 (outW z).2]):=by
 refine Zab Tryz.func143 rfl Tryz.ntmps143 rfl ?_
 repeat' first|refine Kz ?_|intro _
 refine TL.call rfl rfl rfl (Zjf ht hl) ?_
 rintro _ As ⟨rfl,rfl⟩
 repeat' first|refine Kz ?_|intro _
 (refine Kx (fun hc=>?_) fun hc=>?_)
 ·repeat' first|refine Kz ?_|intro _
  (refine Zac ?_)
  exact ⟨_,⟨by rw [outW,if_pos (by omega)],rfl⟩,Zaa⟩
 ·have hlm:(mag z.natAbs).length≤1000:=by
   by_cases h0:z.natAbs=0
   ·rw [h0,Zaz];simp
   ·have h3:(mag z.natAbs).length≠0:=fun h=>h0 (Zxq.1 h)
    obtain ⟨d,hd⟩:∃ d,(mag z.natAbs)[(mag z.natAbs).length - 1]?=some d:=⟨_,List.getElem?_eq_getElem (by omega)⟩
    have:=Zck _ (Zb5 hd).2.1
    omega
  repeat' first|refine Kz ?_|intro _
  (refine Kx (fun hc=>?_) fun hc=>?_)
  ·repeat' first|refine Kz ?_|intro _
   refine TL.call rfl rfl rfl (Zfw ht hlm) ?_
   rintro _ As ⟨rfl,rfl⟩
   have hdl:=Zbm z.natAbs
   repeat' first|refine Kz ?_|intro _
   (refine Zac ?_)
   refine ⟨_,⟨?_,rfl⟩,Zaa⟩
   rw [outW,if_neg (by omega)]
   simp only [textI,Lib.itoa,if_pos hc]
   rfl
  ·repeat' first|refine Kz ?_|intro _
   refine TL.call rfl rfl rfl (Zfw ht hlm) ?_
   rintro _ As ⟨rfl,rfl⟩
   repeat' first|refine Kz ?_|intro _
   (refine Zac ?_)
   refine ⟨_,⟨?_,rfl⟩,Zaa⟩
   rw [outW,if_neg (by omega)]
   simp only [textI,Lib.itoa,if_neg hc]
   rw [show z.natAbs=z.toNat by omega]
end Go.Proofs.YtbfgldlfciimiaaGreatDoor
namespace Go.Proofs.YtbfgldlfciimiaaGreatDoor
open Go Go.Sx
variable {w0:World} {As:List Ent}
theorem Zmu {l:List UInt8} (hd:∀ c∈l,isDig c=true) (h0:0 < l.length) (hl:l.length≤1000) :
  CallsS Tryz.prog w0 216 [.string ⟨l.toArray⟩] As (MagR As (numOf l)):=by
 refine Zff ?_
 refine Zab Tryz.func216 rfl Tryz.ntmps216 rfl ?_
 repeat' first|refine Kz ?_|intro _
 refine Tri.loop (ι:=Value × List Nat × Nat) (fun s=>0 < s.2.2∧s.2.2≤l.length∧s.2.1++grp (l.take s.2.2)=grp l∧s.2.1.length+s.2.2≤l.length) (fun s=>s.2.2)
  (fun s=>[(0,.string ⟨l.toArray⟩),(3,s.1),(4,.int .i64 (s.2.2:Int))]) (fun s=>.ow (cN .u32) 256 s.1 s.2.1::As) (.slice none 0 0,[],l.length) ⟨h0,Nat.le_refl _,by simp,by simp⟩ Zad (Za3 _) ?_
 rintro ⟨mv,g,en⟩ ⟨hen0,hen,hg,hgl⟩
 simp only at hen0 hen hg hgl
 show Tri _ _ _ _ [(0,_),(3,mv),(4,.int .i64 (en:Int))] (.ow (cN .u32) 256 mv g::As) _
 obtain ⟨st,hst⟩:∃ st:Nat,(if (en:Int) - 9 < 0 then 0 else (en:Int) - 9)=(st:Int):=⟨en - 9,by split<;>omega⟩
 have hst2:st=en - 9:=by split at hst<;>omega
 repeat' first|refine Kz ?_|intro _
 rw [hst]
 repeat' first|refine Kz ?_|intro _
 refine Tri.loop (ι:=Nat) (fun i=>st≤i∧i≤en) (fun i=>en - i)
  (fun i=>[(0,.string ⟨l.toArray⟩),(3,mv),(4,.int .i64 (en:Int)),(5,.int .i64 (st:Int)),(6,.int .u32 (numOf ((l.take i).drop st):Nat)),(7,.int .i64 (i:Int))]) (fun _=>.ow (cN .u32) 256 mv g::As) st ⟨Nat.le_refl _,by omega⟩ ?_ Zaa ?_
 ·rw [show numOf ((l.take st).drop st)=0 by rw [List.drop_eq_nil_of_le (by simp;omega)];rfl]
  (exact Zad)
 ·intro i ⟨hi1,hi2⟩
  repeat' first|refine Kz ?_|intro _
  (refine Kx (fun hc=>?_) fun hc=>?_)
  ·obtain ⟨c,hc'⟩:∃ c,l[i]?=some c:=⟨_,List.getElem?_eq_getElem (by omega)⟩
   have hcd:=Zjg.1 (hd c (List.mem_of_getElem? hc'))
   have hi3:=(List.getElem?_eq_some_iff.1 hc').1
   have e1:(l.take (i+1)).drop st=(l.take i).drop st++[c]:=by
    rw [List.take_succ_eq_append_getElem hi3,(List.getElem?_eq_some_iff.1 hc').2,List.drop_append_of_le_length (by simp;omega)]
   have e2:=Zdt (l:=(l.take i).drop st) fun c hc=>hd c (List.mem_of_mem_take (List.mem_of_mem_drop hc))
   have e3:((l.take i).drop st).length≤8:=by simp;omega
   have e4:=Nat.pow_le_pow_right (n:=10) (by omega) e3
   repeat' first|refine Kz ?_|intro _
   refine Post.round (i+1) ⟨by omega,by omega⟩ (by omega) ?_ Zaa
   rw [show ((numOf ((l.take (i+1)).drop st):Nat):Int)=(numOf ((l.take i).drop st):Int) * 10+((c.toNat:Int) - 48) by rw [e1,Zdm,dig];omega]
   (exact Zad)
  ·have hie:i=en:=by omega
   subst hie
   have hgl2:g.length≤1000:=by omega
   repeat' first|refine Kz ?_|intro _
   (refine Kx (fun hc=>?_) fun hc=>?_)
   ·have hst0:st=0:=by omega
    subst hst0
    have e1:g++[numOf (l.take i)]=grp l:=by rw [← hg,Zx2 (by simp;omega)]
    rw [List.drop_zero,e1]
    obtain ⟨k1,k2⟩:=Zx1 l.length (Nat.le_refl _) hd
    have k3:(grp l).length≤1001:=by rw [← e1];simp;omega
    repeat' first|refine Kz ?_|intro _
    rename_i mv2
    refine TL.ents Ents.freeze ?_
    refine TL.call rfl rfl rfl (Zdj k2 (by omega)) ?_
    rintro _ _ ⟨p,cap,rfl,rfl⟩
    rw [k1]
    repeat' first|refine Kz ?_|intro _
    (refine Zac ?_)
    exact ⟨_,rfl,Zaa⟩
   ·have e2:grp (l.take i)=numOf ((l.take i).drop (i - 9))::grp (l.take (i - 9)):=by
     rw [Z3n (by simp;omega)]
     simp only [List.length_take,Nat.min_eq_left hen,List.take_take]
     rw [Nat.min_eq_left (by omega)]
    repeat' first|refine Kz ?_|intro _
    rename_i mv2
    refine Post.round (mv2,g++[numOf ((l.take i).drop st)],i - 9) ⟨by simp only;omega,by simp only;omega,by simp only;rw [← hg,e2,hst2];simp,by simp;omega⟩ (by simp only;omega) ?_ Zaa
    rw [show ((i - 9:Nat):Int)=(i:Int) - 9 by omega]
    (exact Zad)
def ReadR (As:List Ent) (r:Option Int) (u:Value) (Bs:List Ent):Prop:=∃ p cap,u=.tuple #[.agg #[.slice p (mag (r.getD 0).natAbs).length cap,.bool (decide (r.getD 0 < 0))],.bool r.isSome]∧Bs=.ft (rd (cN .u32) (.slice p (mag (r.getD 0).natAbs).length cap) (mag (r.getD 0).natAbs))::As
theorem Zzk:∃ As',ReadR As none (.tuple #[.agg #[.slice none 0 0,.bool false],.bool false]) As'∧Ents As As' :=
 ⟨_,⟨none,0,by simp [Zaz],rfl⟩,fun w0 w ⟨H,bs,g⟩=>⟨H,bs,g.size,g.os,g.tape,g.output,g.fz,g.old,⟨.inl ⟨⟨_,by simp [Zaz];rfl⟩,by simp [Zaz]⟩,g.sat⟩,g.nd,g.ap⟩⟩
theorem Zc2 {s:List UInt8} (_hl:s.length≤1000000000):CallsS Tryz.prog w0 177 [.string ⟨s.toArray⟩] As (ReadR As (readW s)):=by
 refine Zab Tryz.func177 rfl Tryz.ntmps177 rfl ?_
 repeat' first|refine Kz ?_|intro _
 refine TL.call rfl rfl rfl Zk0 ?_
 rintro _ As ⟨rfl,rfl⟩
 obtain ⟨neg,hneg⟩:∃ neg,Lib.hasPrefix s [45]=neg:=⟨_,rfl⟩
 obtain ⟨l,hll⟩:∃ l,Lib.trimPrefix s [45]=l:=⟨_,rfl⟩
 rw [hneg,hll]
 have hle:l.length≤s.length:=by rw [← hll,Lib.trimPrefix];split<;>simp
 have hrw:=Zi3 hneg hll
 have hbad:∀ {e:Env} {Bs:List Ent},¬ (0 < l.length∧l.length≤600∧(∀ c∈l,isDig c=true)∧(l[0]?=some 48→neg=false∧l.length=1))→Ents Bs As →
   ∃ As',ReadR As (readW s) (.tuple #[.agg #[.slice none 0 0,.bool false],.bool false]) As'∧Ents Bs As':=fun h hB=>by
  rw [hrw,if_neg h]
  obtain ⟨As',h1,h2⟩:=Zzk (As:=As)
  exact ⟨As',h1,Ents.trans hB h2⟩
 (repeat' (first|((show TL _ _ _ _ (_::_) _ _ _;first|refine Ze1 ?_|refine Zey ?_|(refine Zcn ?_;intro _)|(refine Zdd ?_;first|rintro _ _ ⟨rfl,rfl⟩|rintro _ _ rfl)|refine Zbp ?_|refine Zbb ?_|refine Ze0 ?_|fail))|(refine Stp.h ?_)|((show Tri _ _ _ (.cond _ _ _) _ _ _;first|refine Zbn ?_|refine Zbo ?_|refine Zat ?_|refine Zau ?_|refine Zap ?_|refine Zaq ?_|fail))|(first|refine Zbg rfl rfl (fun hgs=>?_) (fun hgs=>?_)|refine Za7 rfl rfl (fun hgs=>?_) (fun hgs=>?_)|refine Zbf rfl rfl rfl (fun hgs=>?_) (fun hgs=>?_)|refine Za6 rfl rfl rfl (fun hgs=>?_) (fun hgs=>?_))|(refine Kx (fun hc=>?_) fun hc=>?_)))
 ·(refine Zac ?_)
  exact hbad (e:=[]) (by omega) Zaa
 ·(refine Zac ?_)
  exact hbad (e:=[]) (by omega) Zaa
 rename_i b1
 refine Tri.loop (ι:=Nat) (fun k=>k≤l.length∧∀ (j:Nat) (c:UInt8),j < k→l[j]?=some c→isDig c=true) (fun k=>l.length - k)
  (fun k=>[(2,.pointer (some ⟨b1,0,none⟩)),(4,.string ⟨l.toArray⟩),(5,.bool neg),(22,.int .i64 l.length),(23,.int .i64 k)]) (fun _=>.cl b1 [.slice none 0 0,.bool false] 225::As) 0 ⟨by omega,fun _ _ h=>by omega⟩ Zad Zaa ?_
 intro k ⟨hk,hf⟩
 repeat' first|refine Kz ?_|intro _
 (refine Kx (fun hc=>?_) fun hc=>?_)
 ·obtain ⟨c,hc'⟩:∃ c,l[k]?=some c:=⟨_,List.getElem?_eq_getElem (by omega)⟩
  (repeat' (first|((show TL _ _ _ _ (_::_) _ _ _;first|refine Ze1 ?_|refine Zey ?_|(refine Zcn ?_;intro _)|(refine Zdd ?_;first|rintro _ _ ⟨rfl,rfl⟩|rintro _ _ rfl)|refine Zbp ?_|refine Zbb ?_|refine Ze0 ?_|fail))|(refine Stp.h ?_)|((show Tri _ _ _ (.cond _ _ _) _ _ _;first|refine Zbn ?_|refine Zbo ?_|refine Zat ?_|refine Zau ?_|refine Zap ?_|refine Zaq ?_|fail))|(first|refine Zbg rfl rfl (fun hgs=>?_) (fun hgs=>?_)|refine Za7 rfl rfl (fun hgs=>?_) (fun hgs=>?_)|refine Zbf rfl rfl rfl (fun hgs=>?_) (fun hgs=>?_)|refine Za6 rfl rfl rfl (fun hgs=>?_) (fun hgs=>?_))|(refine Kx (fun hc=>?_) fun hc=>?_)))
  ·(refine Zac ?_)
   refine hbad (e:=[]) (fun h=>?_) Zaa
   have:=Zjg.1 (h.2.2.1 c (List.mem_of_getElem? hc'))
   omega
  ·(refine Zac ?_)
   refine hbad (e:=[]) (fun h=>?_) Zaa
   have:=Zjg.1 (h.2.2.1 c (List.mem_of_getElem? hc'))
   omega
  ·refine Post.round (k+1) ⟨by omega,fun j y hj hy=>?_⟩ (by omega) Zad Zaa
   rcases Nat.lt_or_ge j k with h1|h1
   ·exact hf j y h1 hy
   ·rw [show j=k from (by omega),hc'] at hy;cases hy;rw [Zjg];omega
 ·have hall:∀ c∈l,isDig c=true:=fun c hc=>by
   obtain ⟨j,hj⟩:=List.mem_iff_getElem?.1 hc
   exact hf j c (by have:=(List.getElem?_eq_some_iff.1 hj).1;omega) hj
  obtain ⟨c0,hc0⟩:∃ c,l[0]?=some c:=⟨_,List.getElem?_eq_getElem (by omega)⟩
  have h48:l[0]?=some 48↔c0.toNat=48:=by
   rw [hc0]
   constructor
   ·intro h;cases h;rfl
   ·intro h;congr 1;apply UInt8.toNat_inj.1;rw [h];rfl
  have hfin:(l[0]?=some 48→neg=false∧l.length=1)→∃ z:Int,readW s=some z∧z.natAbs=numOf l∧decide (z < 0)=neg:=fun h=>by
   refine ⟨_,by rw [hrw,if_pos ⟨by omega,by omega,hall,h⟩],by split<;>omega,?_⟩
   cases neg
   ·simp
   ·have:=Zfp hall (by omega) fun h1=>by have:=(h h1).1;cases this
    simp;omega
  cases neg
  all_goals
   (repeat' (first|((show TL _ _ _ _ (_::_) _ _ _;first|refine Ze1 ?_|refine Zey ?_|(refine Zcn ?_;intro _)|(refine Zdd ?_;first|rintro _ _ ⟨rfl,rfl⟩|rintro _ _ rfl)|refine Zbp ?_|refine Zbb ?_|refine Ze0 ?_|fail))|(refine Stp.h ?_)|(first|(show TT _ _ _ _ _ _ _ _ _;first|refine Zgh ?_|refine Zex ?_|refine Zc3 ?_|refine Zwc ?_|fail)|exact TTs.nil|refine TTs.cons ?_ ?_|(show T1 _ _ _ _ _ _ _ _ _ _;first|refine Zwd ?_|(refine Znj ?_;intro _)|(refine Zni ?_;first|rintro _ _ ⟨rfl,rfl⟩|rintro _ _ rfl)|refine Zwe ?_|refine Ziq ?_|refine Zgi ?_|fail)|(show TC _ _ _ _ _ _ _ _ _ _;first|refine Znh ?_|refine Zip ?_|fail))|((show Tri _ _ _ (.cond _ _ _) _ _ _;first|refine Zbn ?_|refine Zbo ?_|refine Zat ?_|refine Zau ?_|refine Zap ?_|refine Zaq ?_|fail))|(first|refine Zbg rfl rfl (fun hgs=>?_) (fun hgs=>?_)|refine Za7 rfl rfl (fun hgs=>?_) (fun hgs=>?_)|refine Zbf rfl rfl rfl (fun hgs=>?_) (fun hgs=>?_)|refine Za6 rfl rfl rfl (fun hgs=>?_) (fun hgs=>?_))|(refine Kx (fun hc=>?_) fun hc=>?_)))
   all_goals first
    | ((refine Zac ?_)
       refine hbad (e:=[]) (fun h=>?_) Zaa
       have:=h.2.2.2 (h48.2 (by omega))
       first|omega|(have h9:=this.1;cases h9))
    | (refine Exists.elim (hfin (fun h=>by have:=h48.1 h;first|omega|exact ⟨rfl,by omega⟩)) ?_
       clear hfin
       rintro z ⟨h1,h2,h3⟩
       refine TL.call rfl rfl rfl (Zmu hall (by omega) (by omega)) ?_
       rintro _ _ ⟨p,cap,rfl,rfl⟩
       repeat' first|refine Kz ?_|intro _
       (refine Zac ?_)
       rw [h1]
       refine ⟨_,⟨p,cap,?_,rfl⟩,by simp only [Option.getD_some,h2];(exact Zaa)⟩
       simp only [Option.getD_some,h2,h3]
       rfl)
end Go.Proofs.YtbfgldlfciimiaaGreatDoor
namespace Go.Proofs.YtbfgldlfciimiaaGreatDoor
open Go Go.Sx
variable {w0:World} {As:List Ent}
theorem Zqb {v o:Value} {a b:Nat} [hf:RdIn As v Nat (cN .u32) (mag a)] [hg:RdIn As o Nat (cN .u32) (mag b)] (ha:(mag a).length≤100000000) (hb:(mag b).length≤100000000):CallsS Tryz.prog w0 179 [v,o] As (MagR As (a+b)):=by
 refine Zff ?_
 refine Zab Tryz.func179 rfl Tryz.ntmps179 rfl ?_
 repeat' first|refine Kz ?_|intro _
 refine Tri.mid (fun e' As'=>∃ v' o' a' b',RdIn As v' Nat (cN .u32) (mag a')∧RdIn As o' Nat (cN .u32) (mag b')∧(mag b').length≤(mag a').length∧(mag a').length≤100000000∧a+b=a'+b'∧e'=[(0,v'),(1,o')]∧As'=As) ?_ ?_
 ·(refine Kx (fun hc=>?_) fun hc=>?_)
  ·repeat' first|refine Kz ?_|intro _
   exact Post.cut _ _ ⟨o,v,b,a,hg,hf,by omega,hb,by omega,rfl,rfl⟩ Zad Zaa
  ·repeat' first|refine Kz ?_|intro _
   exact Post.cut _ _ ⟨v,o,a,b,hf,hg,by omega,ha,rfl,rfl,rfl⟩ Zad Zaa
 ·rintro _ As ⟨v',o',a',b',hf',hg',hlen,hla,hab,rfl,rfl⟩
  rw [hab]
  have hsa:=Za2 a'
  have hsb:=Za2 b'
  repeat' first|refine Kz ?_|intro _
  rename_i sv
  refine Tri.loop (ι:=Nat × Value × List Nat × Nat) (fun s=>s.1≤(mag a').length∧s.2.2.1.length=s.1∧(∀ x∈s.2.2.1,x < 1000000000)∧s.2.2.2≤1∧valB s.2.2.1+1000000000 ^ s.1 * s.2.2.2=valB ((mag a').take s.1)+valB ((mag b').take s.1)) (fun s=>(mag a').length - s.1)
   (fun s=>[(1,o'),(5,s.2.1),(6,.int .u32 (s.2.2.2:Int)),(20,v'),(21,.int .i64 (mag a').length),(22,.int .i64 (s.1:Int))]) (fun s=>.ow (cN .u32) 256 s.2.1 s.2.2.1::As)
   (0,sv,[],0) ⟨by omega,rfl,(fun _ h=>by cases h),Nat.zero_le 1,by simp [valB]⟩ Zad (by simp only [List.replicate_zero];(exact Zaa)) ?_
  rintro ⟨i,sv,xs,c⟩ ⟨hi,hxl,hxs,hc1,hval⟩
  simp only at hi hxl hxs hc1 hval
  show Tri _ _ _ _ [(1,o'),(5,sv),(6,.int .u32 (c:Int)),(20,v'),(21,_),(22,.int .i64 (i:Int))] (.ow (cN .u32) 256 sv xs::As) _
  repeat' first|refine Kz ?_|intro _
  (refine Kx (fun hc=>?_) fun hc=>?_)
  ·obtain ⟨d,hd⟩:∃ d,(mag a')[i]?=some d:=⟨_,List.getElem?_eq_getElem (by omega)⟩
   have hd9:=hsa d (List.mem_of_getElem? hd)
   have hta:=Zaw hd
   obtain ⟨ee,he9,htb,heb⟩:∃ ee,ee < 1000000000∧valB ((mag b').take (i+1))=valB ((mag b').take i)+1000000000 ^ i * ee∧((i < (mag b').length∧(mag b')[i]?=some ee)∨(¬ i < (mag b').length∧ee=0)):=by
    by_cases h:i < (mag b').length
    ·have h1:(mag b')[i]?=some (mag b')[i]:=List.getElem?_eq_getElem h
     exact ⟨_,hsb _ (List.mem_of_getElem? h1),Zaw h1,.inl ⟨h,h1⟩⟩
    ·exact ⟨0,by omega,by rw [Zak (by omega),Zak (by omega)];omega,.inr ⟨h,rfl⟩⟩
   repeat' first|refine Kz ?_|intro _
   refine Tri.mid (fun e' As'=>e'=[(1,o'),(5,sv),(8,.int .u32 ((d:Int)+c+ee)),(20,v'),(21,.int .i64 (mag a').length),(22,.int .i64 (i:Int))]∧As'=.ow (cN .u32) 256 sv xs::As) ?_ ?_
   ·rcases heb with ⟨h1,h2⟩|⟨h1,rfl⟩
    ·repeat' first|refine Kz ?_|intro _
     exact Post.cut _ _ ⟨rfl,rfl⟩ Zad Zaa
    ·repeat' first|refine Kz ?_|intro _
     refine Post.cut _ _ ⟨rfl,rfl⟩ ?_ Zaa
     rw [show ((d:Int)+c+((0:Nat):Int))=(d:Int)+c by omega]
     (exact Zad)
   ·rintro _ _ ⟨rfl,hB⟩
    subst hB
    repeat' first|refine Kz ?_|intro _
    (refine Kx (fun hc=>?_) fun hc=>?_)
    ·have e9:((d:Int)+c+ee - 1000000000)=((d+c+ee - 1000000000:Nat):Int):=by omega
     repeat' first|refine Kz ?_|intro _
     rw [e9]
     repeat' first|refine Kz ?_|intro _
     rename_i b9 sv2
     refine Post.round (i+1,sv2,xs++[d+c+ee - 1000000000],1) ⟨by simp only;omega,by simp;omega,Zfk hxs (by omega),Nat.le_refl 1,?_⟩ (by simp only;omega) Zad Zaa
     simp only
     rw [Zgp,hxl,hta,htb,Nat.pow_succ]
     exact Zi7 hval (by omega)
    ·have e9:((d:Int)+c+ee)=((d+c+ee:Nat):Int):=by omega
     rw [e9]
     repeat' first|refine Kz ?_|intro _
     rename_i b9 sv2
     refine Post.round (i+1,sv2,xs++[d+c+ee],0) ⟨by simp only;omega,by simp;omega,Zfk hxs (by omega),Nat.zero_le 1,?_⟩ (by simp only;omega) Zad Zaa
     simp only
     rw [Zgp,hxl,hta,htb,Nat.pow_succ]
     exact Zi7 hval (by omega)
  ·have hie:i=(mag a').length:=by omega
   rw [Zak (by omega),Zak (by omega),Za8,Za8] at hval
   have hxl2:xs.length≤100000000:=by omega
   repeat' first|refine Kz ?_|intro _
   (refine Kx (fun hc=>?_) fun hc=>?_)
   ·have hc0:c=1:=by omega
    subst hc0
    have h1:=Zw3 (a:=a') (b:=b') hxs (by omega) (by rw [hxl];omega)
    repeat' first|refine Kz ?_|intro _
    rename_i b9 sv2
    (refine Zac ?_)
    refine ⟨_,rfl,?_⟩
    rw [← h1]
    exact Ents.trans Ents.freeze Zaa
   ·have hc0:c=0:=by omega
    subst hc0
    have h1:=Zw4 (a:=a') (b:=b') hxs (by omega) (by omega) hlen
    repeat' first|refine Kz ?_|intro _
    (refine Zac ?_)
    refine ⟨_,rfl,?_⟩
    rw [← h1]
    exact Ents.trans Ents.freeze Zaa
theorem Zm9 {x y:Int}:CQ Tryz.prog w0 204 [.int .u32 x,.int .u32 y] As (.int .i64 (Lib.compareInt x y)):=by
 refine Zab Tryz.func204 rfl Tryz.ntmps204 rfl ?_
 have hnan:∀ {z:Int} {As:List Ent},CQ Tryz.prog w0 228 [.int .u32 z] As (.bool (!decide (z=z))):=fun {z As}=>by
  refine Zab Tryz.func228 rfl Tryz.ntmps228 rfl ?_
  repeat' first|refine Kz ?_|intro _
  exact Kv
 repeat' first|refine Kz ?_|intro _
 refine TL.call rfl rfl rfl hnan ?_
 rintro _ As ⟨rfl,rfl⟩
 repeat' first|refine Kz ?_|intro _
 refine TL.call rfl rfl rfl hnan ?_
 rintro _ As ⟨rfl,rfl⟩
 have h1:(!decide (x=x))=false:=by simp
 have h2:(!decide (y=y))=false:=by simp
 rw [h1,h2]
 (repeat' (first|((show TL _ _ _ _ (_::_) _ _ _;first|refine Ze1 ?_|refine Zey ?_|(refine Zcn ?_;intro _)|(refine Zdd ?_;first|rintro _ _ ⟨rfl,rfl⟩|rintro _ _ rfl)|refine Zbp ?_|refine Zbb ?_|refine Ze0 ?_|fail))|(refine Stp.h ?_)|((show Tri _ _ _ (.cond _ _ _) _ _ _;first|refine Zbn ?_|refine Zbo ?_|refine Zat ?_|refine Zau ?_|refine Zap ?_|refine Zaq ?_|fail))|(first|refine Zbg rfl rfl (fun hgs=>?_) (fun hgs=>?_)|refine Za7 rfl rfl (fun hgs=>?_) (fun hgs=>?_)|refine Zbf rfl rfl rfl (fun hgs=>?_) (fun hgs=>?_)|refine Za6 rfl rfl rfl (fun hgs=>?_) (fun hgs=>?_))|(refine Kx (fun hc=>?_) fun hc=>?_)))
 ·(refine Zac ?_)
  exact ⟨_,⟨by rw [Lib.compareInt,if_pos (by assumption)],rfl⟩,Zaa⟩
 ·(refine Zac ?_)
  exact ⟨_,⟨by rw [Lib.compareInt,if_neg (by omega),if_pos (by omega)],rfl⟩,Zaa⟩
 ·(refine Zac ?_)
  exact ⟨_,⟨by rw [Lib.compareInt,if_neg (by omega),if_neg (by omega)],rfl⟩,Zaa⟩
theorem Zc7 {v o:Value} {a b:Nat} [hf:RdIn As v Nat (cN .u32) (mag a)] [hg:RdIn As o Nat (cN .u32) (mag b)] (ha:(mag a).length≤100000000) (hb:(mag b).length≤100000000):CQ Tryz.prog w0 180 [v,o] As (.int .i64 (Lib.compareInt a b)):=by
 refine Zab Tryz.func180 rfl Tryz.ntmps180 rfl ?_
 have hlt:∀ {a b:Nat},a < b→Lib.compareInt a b=-1:=fun h=>by rw [Lib.compareInt,if_pos (by omega)]
 have hgt:∀ {a b:Nat},b < a→Lib.compareInt a b=1:=fun h=>by rw [Lib.compareInt,if_neg (by omega),if_pos (by omega)]
 repeat' first|refine Kz ?_|intro _
 (refine Kx (fun hc=>?_) fun hc=>?_)
 ·repeat' first|refine Kz ?_|intro _
  refine TL.call rfl rfl rfl Zjn ?_
  rintro _ As ⟨rfl,rfl⟩
  repeat' first|refine Kz ?_|intro _
  (refine Zac ?_)
  refine ⟨_,⟨?_,rfl⟩,Zaa⟩
  rcases Nat.lt_or_gt_of_ne (show (mag a).length≠(mag b).length by omega) with h|h
  ·rw [hlt h,hlt (Zrg h)]
  ·rw [hgt h,hgt (Zrg h)]
 ·have hlen:(mag b).length=(mag a).length:=by omega
  have hdiv:∀ {n:Nat},(mag n).length=(mag a).length→n / 1000000000 ^ (mag a).length=0:=fun h=>by rw [← h];exact Nat.div_eq_of_lt (Zai _)
  repeat' first|refine Kz ?_|intro _
  refine Tri.loop (ι:=Nat) (fun j=>j≤(mag a).length∧a / 1000000000 ^ j=b / 1000000000 ^ j) (fun j=>j)
   (fun j=>[(0,v),(1,o),(5,.int .i64 ((j:Int) - 1))]) (fun _=>As) (mag a).length ⟨Nat.le_refl _,by rw [hdiv rfl,hdiv hlen]⟩ Zad Zaa ?_
  intro j ⟨hj,hq⟩
  cases j with
  | zero =>
   rw [show ((0:Nat):Int) - 1=-1 from rfl]
   repeat' first|refine Kz ?_|intro _
   (refine Zac ?_)
   have:a=b:=by simpa using hq
   subst this
   exact ⟨_,⟨by rw [Lib.compareInt,if_neg (by omega),if_neg (by omega)],rfl⟩,Zaa⟩
  | succ j =>
   rw [show ((j+1:Nat):Int) - 1=(j:Int) by omega]
   obtain ⟨d,hd⟩:∃ d,(mag a)[j]?=some d:=⟨_,List.getElem?_eq_getElem (by omega)⟩
   obtain ⟨ee,he⟩:∃ d,(mag b)[j]?=some d:=⟨_,List.getElem?_eq_getElem (by omega)⟩
   obtain ⟨k1,_,_⟩:=Zb5 hd
   obtain ⟨l1,_,_⟩:=Zb5 he
   repeat' first|refine Kz ?_|intro _
   refine Zam (.take 0 (.take 1 (.take 2 (.take 3 (.take 4 (.take 5 (.take 6 (.take 7 (.take 8 (.done)))))))))) ?_
   repeat' first|refine Kf ?_|intro _|constructor
   (refine Kx (fun hc=>?_) fun hc=>?_)
   ·repeat' first|refine Kf ?_|intro _|constructor
    refine Zam (.take 0 (.take 1 (.take 2 (.take 3 (.take 4 (.take 5 (.take 6 (.take 7 (.all [(8,.take 9 (.done))]))))))))) ?_
    repeat' first|refine Kf ?_|intro _|constructor
    refine T1.call rfl rfl rfl rfl Zm9 ?_
    rintro _ As ⟨rfl,rfl⟩
    repeat' first|refine Kf ?_|intro _|constructor
    (refine Zac ?_)
    refine ⟨_,⟨?_,rfl⟩,Zaa⟩
    rcases Nat.lt_or_gt_of_ne (show d≠ee by omega) with h|h
    ·rw [hlt h,hlt (Zjo hq k1 l1 h)]
    ·rw [hgt h,hgt (Zjo hq.symm l1 k1 h)]
   ·repeat' first|refine Kf ?_|intro _|constructor
    refine Post.round j ⟨by omega,?_⟩ (by omega) Zad Zaa
    have:d=ee:=by omega
    rw [k1,l1,hq,this]
end Go.Proofs.YtbfgldlfciimiaaGreatDoor
namespace Go.Proofs.YtbfgldlfciimiaaGreatDoor
open Go Go.Sx
variable {w0:World} {As:List Ent}
theorem Zjd {v o:Value} {a b:Nat} [hf:RdIn As v Nat (cN .u32) (mag a)] [hg:RdIn As o Nat (cN .u32) (mag b)] (hab:b≤a) (ha:(mag a).length≤100000000):CallsS Tryz.prog w0 181 [v,o] As (MagR As (a - b)):=by
 have hlb:=Zah hab
 have hsa:=Za2 a
 have hsb:=Za2 b
 have hrl:(List.replicate (mag a).length 0).length=(mag a).length:=List.length_replicate
 refine Zab Tryz.func181 rfl Tryz.ntmps181 rfl ?_
 repeat' first|refine Kz ?_|intro _
 rename_i sv
 refine Tri.loop (ι:=Nat × List Nat × Nat) (fun s=>s.1≤(mag a).length∧s.2.1.length=(mag a).length∧(∀ x∈s.2.1,x < 1000000000)∧s.2.2≤1∧valB (s.2.1.take s.1)+valB ((mag b).take s.1)=valB ((mag a).take s.1)+1000000000 ^ s.1 * s.2.2) (fun s=>(mag a).length - s.1)
  (fun s=>[(1,o),(5,sv),(6,.int .u32 (s.2.2:Int)),(13,v),(14,.int .i64 (mag a).length),(15,.int .i64 (s.1:Int))]) (fun s=>.ow (cN .u32) 256 sv s.2.1::As)
  (0,List.replicate (mag a).length 0,0) ⟨by omega,hrl,(fun x h=>by rw [List.eq_of_mem_replicate h];decide),Nat.zero_le 1,by simp [valB]⟩ Zad Zaa ?_
 rintro ⟨i,xs,c⟩ ⟨hi,hxl,hxs,hc1,hval⟩
 simp only at hi hxl hxs hc1 hval
 show Tri _ _ _ _ [(1,o),(5,sv),(6,.int .u32 (c:Int)),(13,v),(14,_),(15,.int .i64 (i:Int))] (.ow (cN .u32) 256 sv xs::As) _
 repeat' first|refine Kz ?_|intro _
 (refine Kx (fun hc=>?_) fun hc=>?_)
 ·obtain ⟨d,hd⟩:∃ d,(mag a)[i]?=some d:=⟨_,List.getElem?_eq_getElem (by omega)⟩
  have hd9:=hsa d (List.mem_of_getElem? hd)
  have hta:=Zaw hd
  obtain ⟨ee,he9,htb,heb⟩:∃ ee,ee < 1000000000∧valB ((mag b).take (i+1))=valB ((mag b).take i)+1000000000 ^ i * ee∧((i < (mag b).length∧(mag b)[i]?=some ee)∨(¬ i < (mag b).length∧ee=0)):=by
   by_cases h:i < (mag b).length
   ·have h1:(mag b)[i]?=some (mag b)[i]:=List.getElem?_eq_getElem h
    exact ⟨_,hsb _ (List.mem_of_getElem? h1),Zaw h1,.inl ⟨h,h1⟩⟩
   ·exact ⟨0,by omega,by rw [Zak (by omega),Zak (by omega)];omega,.inr ⟨h,rfl⟩⟩
  have hset:∀ g c',g < 1000000000→c'≤1→g+c+ee=d+1000000000 * c'→∀ {Q:Exit→Act→World→Prop} {e:Env},Sub e [(1,o),(5,sv),(6,.int .u32 (c':Int)),(13,v),(14,.int .i64 (mag a).length),(15,.int .i64 ((i+1:Nat):Int))] →
    valB ((xs.set i g).take (i+1))+valB ((mag b).take (i+1))=valB ((mag a).take (i+1))+1000000000 ^ (i+1) * c':=fun g c' hg9 hc9 hgc Q e _=>by
   have h1:(xs.set i g)[i]?=some g:=by rw [List.getElem?_set,if_pos rfl,if_pos (by omega)]
   rw [Zaw h1,List.take_set_of_le (Nat.le_refl i),hta,htb,Nat.pow_succ]
   exact Zoy hval hgc
  repeat' first|refine Kz ?_|intro _
  refine Tri.mid (fun e' As'=>e'=[(1,o),(5,sv),(7,.int .i64 (i:Int)),(8,.int .u32 (d:Int)),(9,.int .u32 ((c:Int)+ee)),(13,v),(14,.int .i64 (mag a).length),(15,.int .i64 (i:Int))]∧As'=.ow (cN .u32) 256 sv xs::As) ?_ ?_
  ·rcases heb with ⟨h1,h2⟩|⟨h1,rfl⟩
   ·repeat' first|refine Kz ?_|intro _
    exact Post.cut _ _ ⟨rfl,rfl⟩ Zad Zaa
   ·repeat' first|refine Kz ?_|intro _
    refine Post.cut _ _ ⟨rfl,rfl⟩ ?_ Zaa
    rw [show ((c:Int)+((0:Nat):Int))=(c:Int) by omega]
    (exact Zad)
  ·rintro _ _ ⟨rfl,hB⟩
   subst hB
   repeat' first|refine Kz ?_|intro _
   (refine Kx (fun hc=>?_) fun hc=>?_)
   ·have e9:((d:Int)+1000000000 - ((c:Int)+ee))=((d+1000000000 - (c+ee):Nat):Int):=by omega
    repeat' first|refine Kz ?_|intro _
    rw [e9]
    repeat' first|refine Kz ?_|intro _
    refine Post.round (i+1,xs.set i (d+1000000000 - (c+ee)),1) ⟨by simp only;omega,by simp;omega,Zax hxs (by omega),Nat.le_refl 1,hset _ 1 (by omega) (by omega) (by omega) (Q:=fun _ _ _=>True) (e:=[(1,o),(5,sv),(6,.int .u32 ((1:Nat):Int)),(13,v),(14,.int .i64 (mag a).length),(15,.int .i64 ((i+1:Nat):Int))]) Zad⟩ (by simp only;omega) Zad Zaa
   ·have e9:((d:Int) - ((c:Int)+ee))=((d - (c+ee):Nat):Int):=by omega
    repeat' first|refine Kz ?_|intro _
    rw [e9]
    repeat' first|refine Kz ?_|intro _
    refine Post.round (i+1,xs.set i (d - (c+ee)),0) ⟨by simp only;omega,by simp;omega,Zax hxs (by omega),Nat.zero_le 1,hset _ 0 (by omega) (by omega) (by omega) (Q:=fun _ _ _=>True) (e:=[(1,o),(5,sv),(6,.int .u32 ((0:Nat):Int)),(13,v),(14,.int .i64 (mag a).length),(15,.int .i64 ((i+1:Nat):Int))]) Zad⟩ (by simp only;omega) Zad Zaa
 ·have hie:i=(mag a).length:=by omega
  rw [Zak (by omega),Zak (by omega),Zak (by omega),Za8,Za8] at hval
  have hX:=Zdi hxs
  rw [hxl,← hie] at hX
  have hc0:c=0:=by
   rcases Nat.lt_or_ge 0 c with h|h
   ·have:c=1:=by omega
    subst this
    omega
   ·omega
  subst hc0
  have hv:valB xs=a - b:=by omega
  repeat' first|refine Kz ?_|intro _
  refine TL.ents Ents.freeze ?_
  refine TL.call rfl rfl rfl (Zdj hxs (by omega)) ?_
  rintro _ _ ⟨p,cap,rfl,rfl⟩
  rw [hv]
  repeat' first|refine Kz ?_|intro _
  (refine Zac ?_)
  exact ⟨_,⟨p,cap,rfl,rfl⟩,Zaa⟩
end Go.Proofs.YtbfgldlfciimiaaGreatDoor
namespace Go.Proofs.YtbfgldlfciimiaaGreatDoor
open Go Go.Sx
variable {w0:World} {As:List Ent}
def SgnR (As:List Ent) (z:Int) (u:Value) (Bs:List Ent):Prop:=∃ p cap,u=.agg #[.slice p (mag z.natAbs).length cap,.bool (decide (z < 0))]∧Bs=.ft (rd (cN .u32) (.slice p (mag z.natAbs).length cap) (mag z.natAbs))::As
theorem Zd4 {n:Nat} {b:Bool} {z:Int} {p:Option Addr} {cap:Nat} (h1:z.natAbs=n) (h2:decide (z < 0)=(b&&decide (n≠0))) :
  SgnR As z (.agg #[.slice p (mag n).length cap,.bool (b&&decide (n≠0))]) (.ft (rd (cN .u32) (.slice p (mag n).length cap) (mag n))::As):=⟨p,cap,by rw [h1,h2],by rw [h1]⟩
theorem Yii {a b:Nat}:Lib.compareInt a b < 0↔a < b:=by
 unfold Lib.compareInt
 split
 ·simp;omega
 ·split<;>simp<;>omega
theorem Zoi {v o:Value} {x y:Int} [hf:RdIn As v Nat (cN .u32) (mag x.natAbs)] [hg:RdIn As o Nat (cN .u32) (mag y.natAbs)] (ha:(mag x.natAbs).length≤100000000) (hb:(mag y.natAbs).length≤100000000) :
  CallsS Tryz.prog w0 139 [.agg #[v,.bool (decide (x < 0))],.agg #[o,.bool (decide (y < 0))]] As (SgnR As (x+y)):=by
 refine Zae v fun pv cv hv=>Zae o fun po co ho=>?_
 subst hv ho
 refine Zab Tryz.func139 rfl Tryz.ntmps139 rfl ?_
 repeat' first|refine Kz ?_|intro _
 (refine Kx (fun hc=>?_) fun hc=>?_)
 ·have hs:(x < 0∧y < 0)∨(¬ x < 0∧¬ y < 0):=by
   by_cases h1:x < 0<;>by_cases h2:y < 0<;>simp [h1,h2] at hc<;>omega
  have e1:(x+y).natAbs=x.natAbs+y.natAbs:=by omega
  have e2:decide (x+y < 0)=(decide (x < 0)&&decide (x.natAbs+y.natAbs≠0)):=by
   rcases hs with ⟨h1,h2⟩|⟨h1,h2⟩
   ·simp only [h1,decide_true,Bool.true_and];rw [Bool.eq_iff_iff,decide_eq_true_eq,decide_eq_true_eq];omega
   ·simp only [h1,decide_false,Bool.false_and];rw [decide_eq_false_iff_not];omega
  repeat' first|refine Kz ?_|intro _
  refine Zam (.take 0 (.take 1 (.take 2 (.take 3 (.take 5 (.take 6 (.all [(4,.all [(7,.all [(8,.done)])])]))))))) ?_
  repeat' first|refine Kf ?_|intro _|constructor
  refine T1.call rfl rfl rfl rfl (Zqb ha hb) ?_
  rintro _ _ ⟨p,cap,rfl,rfl⟩
  repeat' first|refine Kf ?_|intro _|constructor
  refine Kw rfl (Zzq (n:=x.natAbs+y.natAbs)) ?_
  repeat' first|refine Kf ?_|intro _|constructor
  (refine Zac ?_)
  exact ⟨_,Zd4 e1 e2,Zaa⟩
 ·have hs:(x < 0∧¬ y < 0)∨(¬ x < 0∧y < 0):=by
   by_cases h1:x < 0<;>by_cases h2:y < 0<;>simp [h1,h2] at hc<;>omega
  repeat' first|refine Kz ?_|intro _
  refine TL.call rfl rfl rfl (Zc7 ha hb) ?_
  rintro _ As ⟨rfl,rfl⟩
  repeat' first|refine Kz ?_|intro _
  (refine Kx (fun hc=>?_) fun hc=>?_)
  ·have hlt:=Yii.1 hc
   have e1:(x+y).natAbs=y.natAbs - x.natAbs:=by omega
   have e2:decide (x+y < 0)=(decide (y < 0)&&decide (y.natAbs - x.natAbs≠0)):=by
    by_cases h2:y < 0
    ·simp only [h2,decide_true,Bool.true_and];rw [Bool.eq_iff_iff,decide_eq_true_eq,decide_eq_true_eq];omega
    ·simp only [h2,decide_false,Bool.false_and];rw [decide_eq_false_iff_not];omega
   repeat' first|refine Kz ?_|intro _
   refine Zam (.take 0 (.take 1 (.take 2 (.take 3 (.take 5 (.take 6 (.all [(4,.all [(7,.all [(8,.done)])])]))))))) ?_
   repeat' first|refine Kf ?_|intro _|constructor
   refine T1.call rfl rfl rfl rfl (Zjd (by omega) hb) ?_
   rintro _ _ ⟨p,cap,rfl,rfl⟩
   repeat' first|refine Kf ?_|intro _|constructor
   refine Kw rfl (Zzq (n:=y.natAbs - x.natAbs)) ?_
   repeat' first|refine Kf ?_|intro _|constructor
   (refine Zac ?_)
   exact ⟨_,Zd4 e1 e2,Zaa⟩
  ·have hlt:¬ x.natAbs < y.natAbs:=fun h=>hc (Yii.2 h)
   have e1:(x+y).natAbs=x.natAbs - y.natAbs:=by omega
   have e2:decide (x+y < 0)=(decide (x < 0)&&decide (x.natAbs - y.natAbs≠0)):=by
    by_cases h2:x < 0
    ·simp only [h2,decide_true,Bool.true_and];rw [Bool.eq_iff_iff,decide_eq_true_eq,decide_eq_true_eq];omega
    ·simp only [h2,decide_false,Bool.false_and];rw [decide_eq_false_iff_not];omega
   repeat' first|refine Kz ?_|intro _
   refine Zam (.take 0 (.take 1 (.take 2 (.take 3 (.take 5 (.take 6 (.all [(4,.all [(7,.all [(8,.done)])])]))))))) ?_
   repeat' first|refine Kf ?_|intro _|constructor
   refine T1.call rfl rfl rfl rfl (Zjd (by omega) ha) ?_
   rintro _ _ ⟨p,cap,rfl,rfl⟩
   repeat' first|refine Kf ?_|intro _|constructor
   refine Kw rfl (Zzq (n:=x.natAbs - y.natAbs)) ?_
   repeat' first|refine Kf ?_|intro _|constructor
   (refine Zac ?_)
   exact ⟨_,Zd4 e1 e2,Zaa⟩
def PairR (As:List Ent) (r s:Option Int) (u:Value) (Bs:List Ent):Prop:=∃ p cap q cap',u=(if r.isSome∧s.isSome then .tuple #[.agg #[.slice p (mag (r.getD 0).natAbs).length cap,.bool (decide (r.getD 0 < 0))],.agg #[.slice q (mag (s.getD 0).natAbs).length cap',.bool (decide (s.getD 0 < 0))],.int .i64 0] else .tuple #[.agg #[.slice none 0 0,.bool false],.agg #[.slice none 0 0,.bool false],.int .i64 10]) ∧
 Bs=.ft (rd (cN .u32) (.slice q (mag (s.getD 0).natAbs).length cap') (mag (s.getD 0).natAbs))::.ft (rd (cN .u32) (.slice p (mag (r.getD 0).natAbs).length cap) (mag (r.getD 0).natAbs))::As
theorem Zqe {s t:List UInt8} (hs:s.length≤1000000000) (ht:t.length≤1000000000):CallsS Tryz.prog w0 138 [.string ⟨s.toArray⟩,.string ⟨t.toArray⟩] As (PairR As (readW s) (readW t)):=by
 refine Zab Tryz.func138 rfl Tryz.ntmps138 rfl ?_
 repeat' first|refine Kz ?_|intro _
 refine TL.call rfl rfl rfl (Zc2 hs) ?_
 rintro _ _ ⟨p,cap,rfl,rfl⟩
 repeat' first|refine Kz ?_|intro _
 refine TL.call rfl rfl rfl (Zc2 ht) ?_
 rintro _ _ ⟨q,cap',rfl,rfl⟩
 cases h1:readW s with
 | none =>
  repeat' first|refine Kz ?_|intro _
  (refine Zac ?_)
  exact ⟨_,⟨p,cap,q,cap',by simp,rfl⟩,Zaa⟩
 | some x =>
  cases h2:readW t with
  | none =>
   repeat' first|refine Kz ?_|intro _
   (refine Zac ?_)
   exact ⟨_,⟨p,cap,q,cap',by simp,rfl⟩,Zaa⟩
  | some y =>
   repeat' first|refine Kz ?_|intro _
   rename_i b4 b5
   refine Zag [] [(0,.c b4),(1,.c b5)] (.take 0 (.take 1 (.all [(2,.all [(3,.take 4 (.done))])]))) ?_
   repeat' first|refine Kf ?_|intro _|constructor
   (refine Zac ?_)
   exact ⟨_,⟨p,cap,q,cap',by simp,rfl⟩,Zaa⟩
def addW (s t:List UInt8):List UInt8 × Int:=match readW s,readW t with
 | some x,some y=>outW (x+y)
 | _,_=>([],10)
theorem Zve (ht:Tab w0) {s t:List UInt8} (hs:s.length≤1000000000) (hl:t.length≤1000000000) :
  CQ Tryz.prog w0 98 [.int .i64 0,.string ⟨s.toArray⟩,.string ⟨t.toArray⟩] As (.tuple #[.string ⟨(addW s t).1.toArray⟩,.int .i64 (addW s t).2]):=by
 refine Zab Tryz.func98 rfl Tryz.ntmps98 rfl ?_
 repeat' first|refine Kz ?_|intro _
 refine TL.call rfl rfl rfl (Zqe hs hl) ?_
 rintro _ _ ⟨p,cap,q,cap',rfl,rfl⟩
 unfold addW
 cases h1:readW s with
 | none =>
  simp only [Option.isSome_none,Bool.false_eq_true,false_and,if_false]
  repeat' first|refine Kz ?_|intro _
  exact Kv
 | some x =>
  cases h2:readW t with
  | none =>
   simp only [Option.isSome_none,Bool.false_eq_true,and_false,if_false]
   repeat' first|refine Kz ?_|intro _
   exact Kv
  | some y =>
   simp only [Option.isSome_some,and_self,if_true,Option.getD_some]
   have l1:=Zbw h1
   have l2:=Zbw h2
   have l3:=Z4t (Zf5 h1) (Zf5 h2)
   repeat' first|refine Kz ?_|intro _
   refine Zam (.take 0 (.take 1 (.take 2 (.take 3 (.take 4 (.take 5 (.all [(6,.all [(7,.take 8 (.take 9 (.take 10 (.take 11 (.done)))))])]))))))) ?_
   repeat' first|refine Kf ?_|intro _|constructor
   refine T1.callv rfl rfl rfl rfl rfl (Zoi (x:=x) (y:=y) (by omega) (by omega)) ?_
   rintro _ _ ⟨p',cap2,rfl,rfl⟩
   repeat' first|refine Kf ?_|intro _|constructor
   refine Kw rfl (Zd7 ht (z:=x+y) (by omega)) ?_
   repeat' first|refine Kf ?_|intro _|constructor
   exact Kv
theorem Zyq (ht:Tab w0) {s t:List UInt8} (hs:s.length≤1000000000) (hl:t.length≤1000000000) :
  CQ Tryz.prog w0 59 [.string ⟨s.toArray⟩,.string ⟨t.toArray⟩] As (.tuple #[.string ⟨(addW s t).1.toArray⟩,.int .i64 (addW s t).2]):=by
 refine Zab Tryz.func59 rfl Tryz.ntmps59 rfl ?_
 repeat' first|refine Kz ?_|intro _
 refine Kt rfl (Zve ht hs hl) ?_
 repeat' first|refine Kz ?_|intro _
 exact Kv
theorem Zli (ht:Tab w0) {n:Int} (h0:-9223372036854775808≤n) (h1:n≤9223372036854775807):CQ Tryz.prog w0 58 [.int .i64 n] As (.string ⟨(textI n).toArray⟩):=by
 refine Zab Tryz.func58 rfl Tryz.ntmps58 rfl ?_
 repeat' first|refine Kz ?_|intro _
 refine Kt rfl (Zmr ht h0 h1) ?_
 repeat' first|refine Kz ?_|intro _
 exact Kv
end Go.Proofs.YtbfgldlfciimiaaGreatDoor
