/- Walks: magnitudes: the decimal digits, the text. -/
import Derived.Test.YtciadfpomkdlnaaGreatDoorWa1
import Derived.Test.YtciadfpomkdlnaaGreatDoorPl
set_option maxHeartbeats 1000000
namespace Go.Proofs.YtciadfpomkdlnaaGreatDoor
open Go Go.Sx
variable {w0:World} {As:List Ent}
theorem Zn5 (ht:Tab w0) {b d wd:Nat} {p bv:Value} {bs:List UInt8} (hp:p=.pointer none∨p=.pointer (some ⟨b,0,none⟩)) (hd:d < 1000000000) (hw:wd≤9) (hl:bs.length≤900000000) :
  CallsS Tryz.prog w0 229 [.int .u32 (d:Int),.int .i64 (wd:Int),.pointer (some ⟨b,0,none⟩)] (.cl b [p,bv] 167::.ow cU8 5 bv bs::As)
   fun _ Bs=>Bld b (bs++(List.replicate (wd - Lib.nDigits d) 48++Lib.decDigits d)) As Bs:=by
 refine Zab Tryz.func229 rfl Tryz.ntmps229 rfl ?_
 repeat' first|refine Kz ?_|intro _
 refine TL.call rfl rfl rfl (Zgk ht (n:=(d:Int)) (by omega) (by omega)) ?_
 rintro _ As ⟨rfl,rfl⟩
 rw [Lib.itoa_nonneg]
 have hdl:=Zaw d
 have hdn:=Zbi (k:=8) (r:=d) (by simpa using hd)
 repeat' first|refine Kz ?_|intro _
 rw [hdl]
 refine Tri.loop (ι:=Nat × Value × Value) (fun s=>s.1≤wd - Lib.nDigits d∧(s.2.1=.pointer none∨s.2.1=.pointer (some ⟨b,0,none⟩))) (fun s=>wd - Lib.nDigits d - s.1)
  (fun s=>[(2,.pointer (some ⟨b,0,none⟩)),(5,.string ⟨(Lib.decDigits d).toArray⟩),(12,.int .i64 ((wd:Int) - (Lib.nDigits d:Int))),(13,.int .i64 (s.1:Int))])
  (fun s=>.cl b [s.2.1,s.2.2] 167::.ow cU8 5 s.2.2 (bs++List.replicate s.1 48)::As) (0,p,bv) ⟨by omega,hp⟩ Zad (by simp only [List.replicate_zero,List.append_nil];(exact Zaa)) ?_
 rintro ⟨k,p,bv⟩ ⟨hk,hp⟩
 simp only at hk hp
 show Tri _ _ _ _ [(2,_),(5,_),(12,_),(13,.int .i64 (k:Int))] (.cl b [p,bv] 167::.ow cU8 5 bv (bs++List.replicate k 48)::As) _
 repeat' first|refine Kz ?_|intro _
 (refine Kx (fun hc=>?_) fun hc=>?_)
 ·repeat' first|refine Kz ?_|intro _
  refine TL.call rfl rfl rfl (Zib (c:=48) hp (by simp;omega)) ?_
  rintro _ _ ⟨rfl,p',bv',hp',rfl⟩
  repeat' first|refine Kz ?_|intro _
  refine Post.round (k+1,p',bv') ⟨by simp only;omega,hp'⟩ (by simp only;omega) Zad ?_
  simp only [List.replicate_succ',List.append_assoc]
  (exact Zaa)
 ·repeat' first|refine Kz ?_|intro _
  refine TL.call rfl rfl rfl (Zbe hp (by simp;omega) (by omega)) ?_
  rintro _ _ ⟨p',bv',hp',rfl⟩
  repeat' first|refine Kz ?_|intro _
  (refine Zac ?_)
  have:k=wd - Lib.nDigits d:=by omega
  subst this
  exact ⟨_,⟨p',bv',hp',by rw [← List.append_assoc]⟩,Zaa⟩
theorem Zdy (ht:Tab w0) {v:Value} {n:Nat} [hr:RdIn As v Nat (cN .u32) (mag n)] (hl:(mag n).length≤1000) :
  CQ Tryz.prog w0 201 [v] As (.string ⟨(Lib.decDigits n).toArray⟩):=by
 refine Zab Tryz.func201 rfl Tryz.ntmps201 rfl ?_
 repeat' first|refine Kz ?_|intro _
 refine TL.call rfl rfl rfl Zcs ?_
 rintro _ As ⟨rfl,rfl⟩
 repeat' first|refine Kz ?_|intro _
 (refine Kx (fun hc=>?_) fun hc=>?_)
 ·subst hc
  repeat' first|refine Kz ?_|intro _
  (refine Zac ?_)
  exact ⟨_,⟨by rw [Zbs (by decide)];rfl,rfl⟩,Zaa⟩
 ·have h1:(mag n).length≠0:=fun h=>hc (Zr3.1 h)
  obtain ⟨d,hd⟩:∃ d,(mag n)[(mag n).length - 1]?=some d:=⟨_,List.getElem?_eq_getElem (by omega)⟩
  obtain ⟨g1,g2,g3⟩:=Zci hd
  repeat' first|refine Kz ?_|intro _
  rename_i b
  refine TL.ents (Zay (T:=5) cU8) ?_
  refine Zfz (.cl b [.pointer none,.slice none 0 0] 167) ?_
  refine TL.callv rfl rfl rfl rfl (Zn5 ht (wd:=0) (.inl rfl) g3 (by omega) (by simp)) ?_
  rintro _ _ ⟨p,bv,hp,rfl⟩
  have hlast:n / 1000000000 ^ ((mag n).length - 1+1)=0:=by
   rw [show (mag n).length - 1+1=(mag n).length by omega]
   exact Nat.div_eq_of_lt (Zak n)
  rw [hlast,Nat.mul_zero,Nat.add_zero] at g1
  have e0:([]:List UInt8)++(List.replicate (0 - Lib.nDigits d) 48++Lib.decDigits d)=Lib.decDigits (n / 1000000000 ^ ((mag n).length - 1)):=by rw [g1];simp
  rw [e0]
  repeat' first|refine Kz ?_|intro _
  have hbl:∀ q,q≤n→(Lib.decDigits q).length≤9001:=fun q hq=>by
   rw [Zaw]
   have h2:=Zag hq
   by_cases h0:q=0
   ·subst h0;rw [Lib.nDigits_small (by decide)];omega
   ·have h3:(mag q).length≠0:=fun h=>h0 (Zr3.1 h)
    obtain ⟨d',hd'⟩:∃ d,(mag q)[(mag q).length - 1]?=some d:=⟨_,List.getElem?_eq_getElem (by omega)⟩
    obtain ⟨k1,k2,k3⟩:=Zci hd'
    rw [Zb2 _ k2,k1]
    have hl0:q / 1000000000 ^ ((mag q).length - 1+1)=0:=by
     rw [show (mag q).length - 1+1=(mag q).length by omega]
     exact Nat.div_eq_of_lt (Zak q)
    rw [hl0,Nat.mul_zero,Nat.add_zero]
    have:=Zbi (k:=8) (r:=d') (by simpa using k3)
    omega
  refine Tri.loop (ι:=Nat × Value × Value) (fun s=>s.1≤(mag n).length - 1∧(s.2.1=.pointer none∨s.2.1=.pointer (some ⟨b,0,none⟩))∧n / 1000000000 ^ s.1≠0) (fun s=>s.1)
   (fun s=>[(0,v),(3,.pointer (some ⟨b,0,none⟩)),(4,.func (.func 229) #[] #[.pointer (some ⟨b,0,none⟩)]),(6,.int .i64 ((s.1:Int) - 1))])
   (fun s=>.cl b [s.2.1,s.2.2] 167::.ow cU8 5 s.2.2 (Lib.decDigits (n / 1000000000 ^ s.1))::As) ((mag n).length - 1,p,bv) ⟨Nat.le_refl _,hp,g2⟩ Zad Zaa ?_
  rintro ⟨j,p,bv⟩ ⟨hj,hp,hj0⟩
  simp only at hj hp hj0
  show Tri _ _ _ _ [(0,v),(3,_),(4,_),(6,.int .i64 ((j:Int) - 1))] (.cl b [p,bv] 167::.ow cU8 5 bv (Lib.decDigits (n / 1000000000 ^ j))::As) _
  have hlj:=hbl (n / 1000000000 ^ j) (Nat.div_le_self _ _)
  cases j with
  | zero =>
   rw [show ((0:Nat):Int) - 1=-1 from rfl]
   repeat' first|refine Kz ?_|intro _
   refine TL.call rfl rfl rfl (Zjo (by intro h;have:=congrArg List.length h;rw [Zaw] at this;have:=Zba (n / 1000000000 ^ 0);simp at *;omega) (by omega)) ?_
   rintro _ As ⟨rfl,rfl⟩
   repeat' first|refine Kz ?_|intro _
   (refine Zac ?_)
   exact ⟨_,⟨by simp,rfl⟩,Zaa⟩
  | succ j =>
   rw [show ((j+1:Nat):Int) - 1=(j:Int) by omega]
   obtain ⟨d',hd'⟩:∃ d,(mag n)[j]?=some d:=⟨_,List.getElem?_eq_getElem (by omega)⟩
   obtain ⟨k1,k2,k3⟩:=Zci hd'
   repeat' first|refine Kz ?_|intro _
   refine TL.callv rfl rfl rfl rfl (Zn5 ht (wd:=9) hp k3 (by omega) (by omega)) ?_
   rintro _ _ ⟨p',bv',hp',rfl⟩
   rw [← Zj9 hj0 k3,← k1]
   repeat' first|refine Kz ?_|intro _
   exact Post.round (j,p',bv') ⟨by simp only;omega,hp',k2⟩ (by simp only;omega) Zad Zaa
theorem Zhc (ht:Tab w0) {v:Value} {n:Nat} [hr:RdIn As v Nat (cN .u32) (mag n)] (hl:(mag n).length≤1000000000) :
  CQ Tryz.prog w0 200 [v] As (.int .i64 (Lib.nDigits n)):=by
 refine Zab Tryz.func200 rfl Tryz.ntmps200 rfl ?_
 repeat' first|refine Kz ?_|intro _
 refine TL.call rfl rfl rfl Zcs ?_
 rintro _ As ⟨rfl,rfl⟩
 repeat' first|refine Kz ?_|intro _
 (refine Kx (fun hc=>?_) fun hc=>?_)
 ·subst hc
  repeat' first|refine Kz ?_|intro _
  (refine Zac ?_)
  exact ⟨_,⟨by rw [Lib.nDigits_small (by decide)];rfl,rfl⟩,Zaa⟩
 ·have h1:(mag n).length≠0:=fun h=>hc (Zr3.1 h)
  obtain ⟨d,hd⟩:∃ d,(mag n)[(mag n).length - 1]?=some d:=⟨_,List.getElem?_eq_getElem (by omega)⟩
  obtain ⟨g1,g2,g3⟩:=Zci hd
  have hlast:n / 1000000000 ^ ((mag n).length - 1+1)=0:=by
   rw [show (mag n).length - 1+1=(mag n).length by omega]
   exact Nat.div_eq_of_lt (Zak n)
  rw [hlast,Nat.mul_zero,Nat.add_zero] at g1
  have hn:=Zb2 _ g2
  rw [g1] at hn
  have hdn:=Zbi (k:=8) (r:=d) (by simpa using g3)
  repeat' first|refine Kz ?_|intro _
  refine TL.call rfl rfl rfl (Zgk ht (n:=(d:Int)) (by omega) (by omega)) ?_
  rintro _ As ⟨rfl,rfl⟩
  rw [Lib.itoa_nonneg]
  have hdl:=Zaw d
  repeat' first|refine Kz ?_|intro _
  (refine Zac ?_)
  refine ⟨_,⟨?_,rfl⟩,Zaa⟩
  rw [hn,hdl]
  congr 1
  omega
theorem Zbm (ht:Tab w0) {v:Value} {z:Int} [hr:RdIn As v Nat (cN .u32) (mag z.natAbs)] (hl:(mag z.natAbs).length≤1000000000) :
  CQ Tryz.prog w0 138 [.agg #[v,.bool (decide (z < 0))]] As (.tuple #[.string ⟨(outW z).1.toArray⟩,.int .i64 (outW z).2]):=by
 refine Zab Tryz.func138 rfl Tryz.ntmps138 rfl ?_
 repeat' first|refine Kz ?_|intro _
 refine TL.call rfl rfl rfl (Zhc ht hl) ?_
 rintro _ As ⟨rfl,rfl⟩
 repeat' first|refine Kz ?_|intro _
 (refine Kx (fun hc=>?_) fun hc=>?_)
 ·repeat' first|refine Kz ?_|intro _
  (refine Zac ?_)
  exact ⟨_,⟨by rw [outW,if_pos (by omega)],rfl⟩,Zaa⟩
 ·have hlm:(mag z.natAbs).length≤1000:=by
   by_cases h0:z.natAbs=0
   ·rw [h0,Zas];simp
   ·have h3:(mag z.natAbs).length≠0:=fun h=>h0 (Zr3.1 h)
    obtain ⟨d,hd⟩:∃ d,(mag z.natAbs)[(mag z.natAbs).length - 1]?=some d:=⟨_,List.getElem?_eq_getElem (by omega)⟩
    have:=Zb2 _ (Zci hd).2.1
    omega
  repeat' first|refine Kz ?_|intro _
  (refine Kx (fun hc=>?_) fun hc=>?_)
  ·repeat' first|refine Kz ?_|intro _
   refine TL.call rfl rfl rfl (Zdy ht hlm) ?_
   rintro _ As ⟨rfl,rfl⟩
   have hdl:=Zaw z.natAbs
   repeat' first|refine Kz ?_|intro _
   (refine Zac ?_)
   refine ⟨_,⟨?_,rfl⟩,Zaa⟩
   rw [outW,if_neg (by omega)]
   simp only [textI,Lib.itoa,if_pos hc]
   rfl
  ·repeat' first|refine Kz ?_|intro _
   refine TL.call rfl rfl rfl (Zdy ht hlm) ?_
   rintro _ As ⟨rfl,rfl⟩
   repeat' first|refine Kz ?_|intro _
   (refine Zac ?_)
   refine ⟨_,⟨?_,rfl⟩,Zaa⟩
   rw [outW,if_neg (by omega)]
   simp only [textI,Lib.itoa,if_neg hc]
   rw [show z.natAbs=z.toNat by omega]
end Go.Proofs.YtciadfpomkdlnaaGreatDoor
namespace Go.Proofs.YtciadfpomkdlnaaGreatDoor
open Go Go.Sx
variable {w0:World} {As:List Ent}
theorem Za0 {l:List UInt8} (hd:∀ c∈l,isDig c=true) (h0:0 < l.length) (hl:l.length≤1000) :
  CallsS Tryz.prog w0 199 [.string ⟨l.toArray⟩] As (MagR As (numOf l)):=by
 refine Zfc ?_
 refine Zab Tryz.func199 rfl Tryz.ntmps199 rfl ?_
 repeat' first|refine Kz ?_|intro _
 refine Tri.loop (ι:=Value × List Nat × Nat) (fun s=>0 < s.2.2∧s.2.2≤l.length∧s.2.1++grp (l.take s.2.2)=grp l∧s.2.1.length+s.2.2≤l.length) (fun s=>s.2.2)
  (fun s=>[(0,.string ⟨l.toArray⟩),(3,s.1),(4,.int .i64 (s.2.2:Int))]) (fun s=>.ow (cN .u32) 226 s.1 s.2.1::As) (.slice none 0 0,[],l.length) ⟨h0,Nat.le_refl _,by simp,by simp⟩ Zad (Zay _) ?_
 rintro ⟨mv,g,en⟩ ⟨hen0,hen,hg,hgl⟩
 simp only at hen0 hen hg hgl
 show Tri _ _ _ _ [(0,_),(3,mv),(4,.int .i64 (en:Int))] (.ow (cN .u32) 226 mv g::As) _
 obtain ⟨st,hst⟩:∃ st:Nat,(if (en:Int) - 9 < 0 then 0 else (en:Int) - 9)=(st:Int):=⟨en - 9,by split<;>omega⟩
 have hst2:st=en - 9:=by split at hst<;>omega
 repeat' first|refine Kz ?_|intro _
 rw [hst]
 repeat' first|refine Kz ?_|intro _
 refine Tri.loop (ι:=Nat) (fun i=>st≤i∧i≤en) (fun i=>en - i)
  (fun i=>[(0,.string ⟨l.toArray⟩),(3,mv),(4,.int .i64 (en:Int)),(5,.int .i64 (st:Int)),(6,.int .u32 (numOf ((l.take i).drop st):Nat)),(7,.int .i64 (i:Int))]) (fun _=>.ow (cN .u32) 226 mv g::As) st ⟨Nat.le_refl _,by omega⟩ ?_ Zaa ?_
 ·rw [show numOf ((l.take st).drop st)=0 by rw [List.drop_eq_nil_of_le (by simp;omega)];rfl]
  (exact Zad)
 ·intro i ⟨hi1,hi2⟩
  repeat' first|refine Kz ?_|intro _
  (refine Kx (fun hc=>?_) fun hc=>?_)
  ·obtain ⟨c,hc'⟩:∃ c,l[i]?=some c:=⟨_,List.getElem?_eq_getElem (by omega)⟩
   have hcd:=Zhd.1 (hd c (List.mem_of_getElem? hc'))
   have hi3:=(List.getElem?_eq_some_iff.1 hc').1
   have e1:(l.take (i+1)).drop st=(l.take i).drop st++[c]:=by
    rw [List.take_succ_eq_append_getElem hi3,(List.getElem?_eq_some_iff.1 hc').2,List.drop_append_of_le_length (by simp;omega)]
   have e2:=Zcf (l:=(l.take i).drop st) fun c hc=>hd c (List.mem_of_mem_take (List.mem_of_mem_drop hc))
   have e3:((l.take i).drop st).length≤8:=by simp;omega
   have e4:=Nat.pow_le_pow_right (n:=10) (by omega) e3
   repeat' first|refine Kz ?_|intro _
   refine Post.round (i+1) ⟨by omega,by omega⟩ (by omega) ?_ Zaa
   rw [show ((numOf ((l.take (i+1)).drop st):Nat):Int)=(numOf ((l.take i).drop st):Int) * 10+((c.toNat:Int) - 48) by rw [e1,Zbx,dig];omega]
   (exact Zad)
  ·have hie:i=en:=by omega
   subst hie
   have hgl2:g.length≤1000:=by omega
   repeat' first|refine Kz ?_|intro _
   (refine Kx (fun hc=>?_) fun hc=>?_)
   ·have hst0:st=0:=by omega
    subst hst0
    have e1:g++[numOf (l.take i)]=grp l:=by rw [← hg,Zsa (by simp;omega)]
    rw [List.drop_zero,e1]
    obtain ⟨k1,k2⟩:=Zr9 l.length (Nat.le_refl _) hd
    have k3:(grp l).length≤1001:=by rw [← e1];simp;omega
    repeat' first|refine Kz ?_|intro _
    rename_i mv2
    refine TL.ents Ents.freeze ?_
    refine TL.call rfl rfl rfl (Zel k2 (by omega)) ?_
    rintro _ _ ⟨p,cap,rfl,rfl⟩
    rw [k1]
    repeat' first|refine Kz ?_|intro _
    (refine Zac ?_)
    exact ⟨_,rfl,Zaa⟩
   ·have e2:grp (l.take i)=numOf ((l.take i).drop (i - 9))::grp (l.take (i - 9)):=by
     rw [Zwo (by simp;omega)]
     simp only [List.length_take,Nat.min_eq_left hen,List.take_take]
     rw [Nat.min_eq_left (by omega)]
    repeat' first|refine Kz ?_|intro _
    rename_i mv2
    refine Post.round (mv2,g++[numOf ((l.take i).drop st)],i - 9) ⟨by simp only;omega,by simp only;omega,by simp only;rw [← hg,e2,hst2];simp,by simp;omega⟩ (by simp only;omega) ?_ Zaa
    rw [show ((i - 9:Nat):Int)=(i:Int) - 9 by omega]
    (exact Zad)
def ReadR (As:List Ent) (r:Option Int) (u:Value) (Bs:List Ent):Prop:=∃ p cap,u=.tuple #[.agg #[.slice p (mag (r.getD 0).natAbs).length cap,.bool (decide (r.getD 0 < 0))],.bool r.isSome]∧Bs=.ft (rd (cN .u32) (.slice p (mag (r.getD 0).natAbs).length cap) (mag (r.getD 0).natAbs))::As
theorem Zte:∃ As',ReadR As none (.tuple #[.agg #[.slice none 0 0,.bool false],.bool false]) As'∧Ents As As' :=
 ⟨_,⟨none,0,by simp [Zas],rfl⟩,fun w0 w ⟨H,bs,g⟩=>⟨H,bs,g.size,g.os,g.tape,g.output,g.fz,g.old,⟨.inl ⟨⟨_,by simp [Zas];rfl⟩,by simp [Zas]⟩,g.sat⟩,g.nd,g.ap⟩⟩
theorem Zbb {s:List UInt8} (_hl:s.length≤1000000000):CallsS Tryz.prog w0 137 [.string ⟨s.toArray⟩] As (ReadR As (readW s)):=by
 refine Zab Tryz.func137 rfl Tryz.ntmps137 rfl ?_
 repeat' first|refine Kz ?_|intro _
 refine TL.call rfl rfl rfl Zff ?_
 rintro _ As ⟨rfl,rfl⟩
 obtain ⟨neg,hneg⟩:∃ neg,Lib.hasPrefix s [45]=neg:=⟨_,rfl⟩
 obtain ⟨l,hll⟩:∃ l,Lib.trimPrefix s [45]=l:=⟨_,rfl⟩
 rw [hneg,hll]
 have hle:l.length≤s.length:=by rw [← hll,Lib.trimPrefix];split<;>simp
 have hrw:=Zg0 hneg hll
 have hbad:∀ {e:Env} {Bs:List Ent},¬ (0 < l.length∧l.length≤600∧(∀ c∈l,isDig c=true)∧(l[0]?=some 48→neg=false∧l.length=1))→Ents Bs As →
   ∃ As',ReadR As (readW s) (.tuple #[.agg #[.slice none 0 0,.bool false],.bool false]) As'∧Ents Bs As':=fun h hB=>by
  rw [hrw,if_neg h]
  obtain ⟨As',h1,h2⟩:=Zte (As:=As)
  exact ⟨As',h1,Ents.trans hB h2⟩
 (repeat' (first|((show TL _ _ _ _ (_::_) _ _ _;first|refine Znh ?_|refine Znf ?_|(refine Zho ?_;intro _)|(refine Zki ?_;first|rintro _ _ ⟨rfl,rfl⟩|rintro _ _ rfl)|refine Zev ?_|refine Zde ?_|refine Zng ?_|fail))|(refine Stp.h ?_)|((show Tri _ _ _ (.cond _ _ _) _ _ _;first|refine Zet ?_|refine Zeu ?_|refine Zcb ?_|refine Zcc ?_|refine Zbp ?_|refine Zbq ?_|fail))|(first|refine Zeh rfl rfl (fun hgs=>?_) (fun hgs=>?_)|refine Zdn rfl rfl (fun hgs=>?_) (fun hgs=>?_)|refine Zeg rfl rfl rfl (fun hgs=>?_) (fun hgs=>?_)|refine Zdm rfl rfl rfl (fun hgs=>?_) (fun hgs=>?_))|(refine Kx (fun hc=>?_) fun hc=>?_)))
 ·(refine Zac ?_)
  exact hbad (e:=[]) (by omega) Zaa
 ·(refine Zac ?_)
  exact hbad (e:=[]) (by omega) Zaa
 rename_i b1
 refine Tri.loop (ι:=Nat) (fun k=>k≤l.length∧∀ (j:Nat) (c:UInt8),j < k→l[j]?=some c→isDig c=true) (fun k=>l.length - k)
  (fun k=>[(2,.pointer (some ⟨b1,0,none⟩)),(4,.string ⟨l.toArray⟩),(5,.bool neg),(22,.int .i64 l.length),(23,.int .i64 k)]) (fun _=>.cl b1 [.slice none 0 0,.bool false] 213::As) 0 ⟨by omega,fun _ _ h=>by omega⟩ Zad Zaa ?_
 intro k ⟨hk,hf⟩
 repeat' first|refine Kz ?_|intro _
 (refine Kx (fun hc=>?_) fun hc=>?_)
 ·obtain ⟨c,hc'⟩:∃ c,l[k]?=some c:=⟨_,List.getElem?_eq_getElem (by omega)⟩
  (repeat' (first|((show TL _ _ _ _ (_::_) _ _ _;first|refine Znh ?_|refine Znf ?_|(refine Zho ?_;intro _)|(refine Zki ?_;first|rintro _ _ ⟨rfl,rfl⟩|rintro _ _ rfl)|refine Zev ?_|refine Zde ?_|refine Zng ?_|fail))|(refine Stp.h ?_)|((show Tri _ _ _ (.cond _ _ _) _ _ _;first|refine Zet ?_|refine Zeu ?_|refine Zcb ?_|refine Zcc ?_|refine Zbp ?_|refine Zbq ?_|fail))|(first|refine Zeh rfl rfl (fun hgs=>?_) (fun hgs=>?_)|refine Zdn rfl rfl (fun hgs=>?_) (fun hgs=>?_)|refine Zeg rfl rfl rfl (fun hgs=>?_) (fun hgs=>?_)|refine Zdm rfl rfl rfl (fun hgs=>?_) (fun hgs=>?_))|(refine Kx (fun hc=>?_) fun hc=>?_)))
  ·(refine Zac ?_)
   refine hbad (e:=[]) (fun h=>?_) Zaa
   have:=Zhd.1 (h.2.2.1 c (List.mem_of_getElem? hc'))
   omega
  ·(refine Zac ?_)
   refine hbad (e:=[]) (fun h=>?_) Zaa
   have:=Zhd.1 (h.2.2.1 c (List.mem_of_getElem? hc'))
   omega
  ·refine Post.round (k+1) ⟨by omega,fun j y hj hy=>?_⟩ (by omega) Zad Zaa
   rcases Nat.lt_or_ge j k with h1|h1
   ·exact hf j y h1 hy
   ·rw [show j=k from (by omega),hc'] at hy;cases hy;rw [Zhd];omega
 ·have hall:∀ c∈l,isDig c=true:=fun c hc=>by
   obtain ⟨j,hj⟩:=List.mem_iff_getElem?.1 hc
   exact hf j c (by have:=(List.getElem?_eq_some_iff.1 hj).1;omega) hj
  obtain ⟨c0,hc0⟩:∃ c,l[0]?=some c:=⟨_,List.getElem?_eq_getElem (by omega)⟩
  have h48:l[0]?=some 48↔c0.toNat=48:=by
   rw [hc0]
   constructor
   ·intro h;cases h;rfl
   ·intro h;congr 1;apply UInt8.toNat_inj.1;rw [h];rfl
  have hfin:(l[0]?=some 48→neg=false∧l.length=1)→∃ z:Int,readW s=some z∧z.natAbs=numOf l∧decide (z < 0)=neg:=fun h=>by
   refine ⟨_,by rw [hrw,if_pos ⟨by omega,by omega,hall,h⟩],by split<;>omega,?_⟩
   cases neg
   ·simp
   ·have:=Zee hall (by omega) fun h1=>by have:=(h h1).1;cases this
    simp;omega
  cases neg
  all_goals
   (repeat' (first|((show TL _ _ _ _ (_::_) _ _ _;first|refine Znh ?_|refine Znf ?_|(refine Zho ?_;intro _)|(refine Zki ?_;first|rintro _ _ ⟨rfl,rfl⟩|rintro _ _ rfl)|refine Zev ?_|refine Zde ?_|refine Zng ?_|fail))|(refine Stp.h ?_)|(first|(show TT _ _ _ _ _ _ _ _ _;first|refine Z0l ?_|refine Zxl ?_|refine Zqx ?_|refine Z6r ?_|fail)|exact TTs.nil|refine TTs.cons ?_ ?_|(show T1 _ _ _ _ _ _ _ _ _ _;first|refine Z6t ?_|(refine Z49 ?_;intro _)|(refine Z48 ?_;first|rintro _ _ ⟨rfl,rfl⟩|rintro _ _ rfl)|refine Z6u ?_|refine Z3f ?_|refine Z0m ?_|fail)|(show TC _ _ _ _ _ _ _ _ _ _;first|refine Z47 ?_|refine Z3e ?_|fail))|((show Tri _ _ _ (.cond _ _ _) _ _ _;first|refine Zet ?_|refine Zeu ?_|refine Zcb ?_|refine Zcc ?_|refine Zbp ?_|refine Zbq ?_|fail))|(first|refine Zeh rfl rfl (fun hgs=>?_) (fun hgs=>?_)|refine Zdn rfl rfl (fun hgs=>?_) (fun hgs=>?_)|refine Zeg rfl rfl rfl (fun hgs=>?_) (fun hgs=>?_)|refine Zdm rfl rfl rfl (fun hgs=>?_) (fun hgs=>?_))|(refine Kx (fun hc=>?_) fun hc=>?_)))
   all_goals first
    | ((refine Zac ?_)
       refine hbad (e:=[]) (fun h=>?_) Zaa
       have:=h.2.2.2 (h48.2 (by omega))
       first|omega|(have h9:=this.1;cases h9))
    | (refine Exists.elim (hfin (fun h=>by have:=h48.1 h;first|omega|exact ⟨rfl,by omega⟩)) ?_
       clear hfin
       rintro z ⟨h1,h2,h3⟩
       refine TL.call rfl rfl rfl (Za0 hall (by omega) (by omega)) ?_
       rintro _ _ ⟨p,cap,rfl,rfl⟩
       repeat' first|refine Kz ?_|intro _
       (refine Zac ?_)
       rw [h1]
       refine ⟨_,⟨p,cap,?_,rfl⟩,by simp only [Option.getD_some,h2];(exact Zaa)⟩
       simp only [Option.getD_some,h2,h3]
       rfl)
end Go.Proofs.YtciadfpomkdlnaaGreatDoor
namespace Go.Proofs.YtciadfpomkdlnaaGreatDoor
open Go Go.Sx
variable {w0:World} {As:List Ent}
theorem Zqu {x y:Int}:CQ Tryz.prog w0 206 [.int .u32 x,.int .u32 y] As (.int .i64 (Lib.compareInt x y)):=by
 refine Zab Tryz.func206 rfl Tryz.ntmps206 rfl ?_
 have hnan:∀ {z:Int} {As:List Ent},CQ Tryz.prog w0 231 [.int .u32 z] As (.bool (!decide (z=z))):=fun {z As}=>by
  refine Zab Tryz.func231 rfl Tryz.ntmps231 rfl ?_
  repeat' first|refine Kz ?_|intro _
  exact Kv
 repeat' first|refine Kz ?_|intro _
 refine TL.call rfl rfl rfl hnan ?_
 rintro _ As ⟨rfl,rfl⟩
 repeat' first|refine Kz ?_|intro _
 refine TL.call rfl rfl rfl hnan ?_
 rintro _ As ⟨rfl,rfl⟩
 have h1:(!decide (x=x))=false:=by simp
 have h2:(!decide (y=y))=false:=by simp
 rw [h1,h2]
 (repeat' (first|((show TL _ _ _ _ (_::_) _ _ _;first|refine Znh ?_|refine Znf ?_|(refine Zho ?_;intro _)|(refine Zki ?_;first|rintro _ _ ⟨rfl,rfl⟩|rintro _ _ rfl)|refine Zev ?_|refine Zde ?_|refine Zng ?_|fail))|(refine Stp.h ?_)|((show Tri _ _ _ (.cond _ _ _) _ _ _;first|refine Zet ?_|refine Zeu ?_|refine Zcb ?_|refine Zcc ?_|refine Zbp ?_|refine Zbq ?_|fail))|(first|refine Zeh rfl rfl (fun hgs=>?_) (fun hgs=>?_)|refine Zdn rfl rfl (fun hgs=>?_) (fun hgs=>?_)|refine Zeg rfl rfl rfl (fun hgs=>?_) (fun hgs=>?_)|refine Zdm rfl rfl rfl (fun hgs=>?_) (fun hgs=>?_))|(refine Kx (fun hc=>?_) fun hc=>?_)))
 ·(refine Zac ?_)
  exact ⟨_,⟨by rw [Lib.compareInt,if_pos (by assumption)],rfl⟩,Zaa⟩
 ·(refine Zac ?_)
  exact ⟨_,⟨by rw [Lib.compareInt,if_neg (by omega),if_pos (by omega)],rfl⟩,Zaa⟩
 ·(refine Zac ?_)
  exact ⟨_,⟨by rw [Lib.compareInt,if_neg (by omega),if_neg (by omega)],rfl⟩,Zaa⟩
end Go.Proofs.YtciadfpomkdlnaaGreatDoor
namespace Go.Proofs.YtciadfpomkdlnaaGreatDoor
open Go Go.Sx
variable {w0:World} {As:List Ent}
end Go.Proofs.YtciadfpomkdlnaaGreatDoor
namespace Go.Proofs.YtciadfpomkdlnaaGreatDoor
open Go Go.Sx
variable {w0:World} {As:List Ent}
def SgnR (As:List Ent) (z:Int) (u:Value) (Bs:List Ent):Prop:=∃ p cap,u=.agg #[.slice p (mag z.natAbs).length cap,.bool (decide (z < 0))]∧Bs=.ft (rd (cN .u32) (.slice p (mag z.natAbs).length cap) (mag z.natAbs))::As
theorem Zge {n:Nat} {b:Bool} {z:Int} {p:Option Addr} {cap:Nat} (h1:z.natAbs=n) (h2:decide (z < 0)=(b&&decide (n≠0))) :
  SgnR As z (.agg #[.slice p (mag n).length cap,.bool (b&&decide (n≠0))]) (.ft (rd (cN .u32) (.slice p (mag n).length cap) (mag n))::As):=⟨p,cap,by rw [h1,h2],by rw [h1]⟩
theorem Z7b {a b:Nat}:Lib.compareInt a b < 0↔a < b:=by
 unfold Lib.compareInt
 split
 ·simp;omega
 ·split<;>simp<;>omega
theorem Zry (ht:Tab w0) {n:Int} (h0:-9223372036854775808≤n) (h1:n≤9223372036854775807):CQ Tryz.prog w0 115 [.int .i64 n] As (.string ⟨(textI n).toArray⟩):=by
 refine Zab Tryz.func115 rfl Tryz.ntmps115 rfl ?_
 repeat' first|refine Kz ?_|intro _
 refine Kt rfl (Zgk ht h0 h1) ?_
 repeat' first|refine Kz ?_|intro _
 exact Kv
end Go.Proofs.YtciadfpomkdlnaaGreatDoor
