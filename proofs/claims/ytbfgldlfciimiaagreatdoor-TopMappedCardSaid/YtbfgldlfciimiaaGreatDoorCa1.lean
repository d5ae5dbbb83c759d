/- Walks: strings. -/
import Derived.Test.YtbfgldlfciimiaaGreatDoorWa1
import Derived.Test.YtbfgldlfciimiaaGreatDoorWa3
set_option maxHeartbeats 1000000
namespace Go.Proofs.YtbfgldlfciimiaaGreatDoor.Q
open Go Go.Sx
variable {w0:World} {As:List Ent}
end Go.Proofs.YtbfgldlfciimiaaGreatDoor.Q
namespace Go.Proofs.YtbfgldlfciimiaaGreatDoor.Q
open Go Go.Sx
variable {w0:World} {As:List Ent}
theorem Zc8 {v:Value} {n:Nat} [RdIn As v Nat (cN .u32) (mag n)]:CQ Tryz.prog w0 120 [v] As (.bool (decide (n=0))):=by
 refine Zab Tryz.func120 rfl Tryz.ntmps120 rfl ?_
 repeat' first|refine Kz ?_|intro _
 (refine Zac ?_)
 refine ⟨_,⟨?_,rfl⟩,Zaa⟩
 congr 1
 rw [Bool.eq_iff_iff,decide_eq_true_eq,decide_eq_true_eq,← Zxq]
 omega
theorem Zdj {v:Value} {xs:List Nat} [hf:FtIn As v Nat (cN .u32) xs] (hs:∀ d∈xs,d < 1000000000) (hl:xs.length≤1000000000):CallsS Tryz.prog w0 200 [v] As (MagR As (valB xs)):=by
 refine Zff ?_
 rw [← Zix hs]
 refine Zab Tryz.func200 rfl Tryz.ntmps200 rfl ?_
 repeat' first|refine Kz ?_|intro _
 refine Tri.loop (ι:=Value × List Nat) (fun s=>s.2.length≤1000000000∧trimL s.2=trimL xs) (fun s=>s.2.length)
  (fun s=>[(0,s.1)]) (fun s=>.ft (rd (cN .u32) s.1 s.2)::As) (v,xs) ⟨hl,rfl⟩ Zad Ents.dup ?_
 rintro ⟨v',ys⟩ ⟨hyl,hy⟩
 simp only at hyl hy
 rcases List.eq_nil_or_concat ys with rfl|⟨zs,d,rfl⟩
 ·show Tri _ _ _ _ [(0,v')] (.ft (rd (cN .u32) v' [])::As) _
  repeat' first|refine Kz ?_|intro _
  (refine Zac ?_)
  exact ⟨_,rfl,by rw [← hy];exact Zaa (Bs:=.ft (rd (cN .u32) v' [])::As)⟩
 ·rw [List.concat_eq_append] at hyl hy ⊢
  have hz:(zs++[d]).length=zs.length+1:=by simp
  have hd:(zs++[d])[(zs++[d]).length - 1]?=some d:=by rw [hz];simp
  have hdr:((zs++[d]).drop 0).take ((zs++[d]).length - 1 - 0)=zs:=by rw [hz];simp
  show Tri _ _ _ _ [(0,v')] (.ft (rd (cN .u32) v' (zs++[d]))::As) _
  repeat' first|refine Kz ?_|intro _
  (refine Kx (fun hc=>?_) fun hc=>?_)
  ·have hd0:d=0:=by omega
   subst hd0
   repeat' first|refine Kz ?_|intro _
   rw [hdr]
   exact Post.round (subV 1 v' 0 ((zs++[0]).length - 1),zs) ⟨by simp only;omega,by rw [← hy,Zhc]⟩ (by simp only;omega) Zad Zaa
  ·repeat' first|refine Kz ?_|intro _
   (refine Zac ?_)
   exact ⟨_,by rw [← hy,Zee (by omega)],Zaa⟩
end Go.Proofs.YtbfgldlfciimiaaGreatDoor.Q
namespace Go.Proofs.YtbfgldlfciimiaaGreatDoor.Q
open Go Go.Sx
variable {w0:World} {As:List Ent}
theorem Zsr (ht:Tab w0) {b d wd:Nat} {p bv:Value} {bs:List UInt8} (hp:p=.pointer none∨p=.pointer (some ⟨b,0,none⟩)) (hd:d < 1000000000) (hw:wd≤9) (hl:bs.length≤900000000) :
  CallsS Tryz.prog w0 205 [.int .u32 (d:Int),.int .i64 (wd:Int),.pointer (some ⟨b,0,none⟩)] (.cl b [p,bv] 288::.ow cU8 5 bv bs::As)
   fun _ Bs=>Bld b (bs++(List.replicate (wd - Lib.nDigits d) 48++Lib.decDigits d)) As Bs:=by
 refine Zab Tryz.func205 rfl Tryz.ntmps205 rfl ?_
 repeat' first|refine Kz ?_|intro _
 refine TL.call rfl rfl rfl (Zmr ht (n:=(d:Int)) (by omega) (by omega)) ?_
 rintro _ As ⟨rfl,rfl⟩
 rw [Lib.itoa_nonneg]
 have hdl:=Zbm d
 have hdn:=Zbt (k:=8) (r:=d) (by simpa using hd)
 repeat' first|refine Kz ?_|intro _
 rw [hdl]
 refine Tri.loop (ι:=Nat × Value × Value) (fun s=>s.1≤wd - Lib.nDigits d∧(s.2.1=.pointer none∨s.2.1=.pointer (some ⟨b,0,none⟩))) (fun s=>wd - Lib.nDigits d - s.1)
  (fun s=>[(2,.pointer (some ⟨b,0,none⟩)),(5,.string ⟨(Lib.decDigits d).toArray⟩),(12,.int .i64 ((wd:Int) - (Lib.nDigits d:Int))),(13,.int .i64 (s.1:Int))])
  (fun s=>.cl b [s.2.1,s.2.2] 288::.ow cU8 5 s.2.2 (bs++List.replicate s.1 48)::As) (0,p,bv) ⟨by omega,hp⟩ Zad (by simp only [List.replicate_zero,List.append_nil];(exact Zaa)) ?_
 rintro ⟨k,p,bv⟩ ⟨hk,hp⟩
 simp only at hk hp
 show Tri _ _ _ _ [(2,_),(5,_),(12,_),(13,.int .i64 (k:Int))] (.cl b [p,bv] 288::.ow cU8 5 bv (bs++List.replicate k 48)::As) _
 repeat' first|refine Kz ?_|intro _
 (refine Kx (fun hc=>?_) fun hc=>?_)
 ·repeat' first|refine Kz ?_|intro _
  refine TL.call rfl rfl rfl (Zkm (c:=48) hp (by simp;omega)) ?_
  rintro _ _ ⟨rfl,p',bv',hp',rfl⟩
  repeat' first|refine Kz ?_|intro _
  refine Post.round (k+1,p',bv') ⟨by simp only;omega,hp'⟩ (by simp only;omega) Zad ?_
  simp only [List.replicate_succ',List.append_assoc]
  (exact Zaa)
 ·repeat' first|refine Kz ?_|intro _
  refine TL.call rfl rfl rfl (Zh2 hp (by simp;omega) (by omega)) ?_
  rintro _ _ ⟨p',bv',hp',rfl⟩
  repeat' first|refine Kz ?_|intro _
  (refine Zac ?_)
  have:k=wd - Lib.nDigits d:=by omega
  subst this
  exact ⟨_,⟨p',bv',hp',by rw [← List.append_assoc]⟩,Zaa⟩
theorem Zfw (ht:Tab w0) {v:Value} {n:Nat} [hr:RdIn As v Nat (cN .u32) (mag n)] (hl:(mag n).length≤1000) :
  CQ Tryz.prog w0 169 [v] As (.string ⟨(Lib.decDigits n).toArray⟩):=by
 refine Zab Tryz.func169 rfl Tryz.ntmps169 rfl ?_
 repeat' first|refine Kz ?_|intro _
 refine TL.call rfl rfl rfl Zc8 ?_
 rintro _ As ⟨rfl,rfl⟩
 repeat' first|refine Kz ?_|intro _
 (refine Kx (fun hc=>?_) fun hc=>?_)
 ·subst hc
  repeat' first|refine Kz ?_|intro _
  (refine Zac ?_)
  exact ⟨_,⟨by rw [Zb7 (by decide)];rfl,rfl⟩,Zaa⟩
 ·have h1:(mag n).length≠0:=fun h=>hc (Zxq.1 h)
  obtain ⟨d,hd⟩:∃ d,(mag n)[(mag n).length - 1]?=some d:=⟨_,List.getElem?_eq_getElem (by omega)⟩
  obtain ⟨g1,g2,g3⟩:=Zb5 hd
  repeat' first|refine Kz ?_|intro _
  rename_i b
  refine TL.ents (Za3 (T:=5) cU8) ?_
  refine Zhy (.cl b [.pointer none,.slice none 0 0] 288) ?_
  refine TL.callv rfl rfl rfl rfl (Zsr ht (wd:=0) (.inl rfl) g3 (by omega) (by simp)) ?_
  rintro _ _ ⟨p,bv,hp,rfl⟩
  have hlast:n / 1000000000 ^ ((mag n).length - 1+1)=0:=by
   rw [show (mag n).length - 1+1=(mag n).length by omega]
   exact Nat.div_eq_of_lt (Zai n)
  rw [hlast,Nat.mul_zero,Nat.add_zero] at g1
  have e0:([]:List UInt8)++(List.replicate (0 - Lib.nDigits d) 48++Lib.decDigits d)=Lib.decDigits (n / 1000000000 ^ ((mag n).length - 1)):=by rw [g1];simp
  rw [e0]
  repeat' first|refine Kz ?_|intro _
  have hbl:∀ q,q≤n→(Lib.decDigits q).length≤9001:=fun q hq=>by
   rw [Zbm]
   have h2:=Zah hq
   by_cases h0:q=0
   ·subst h0;rw [Lib.nDigits_small (by decide)];omega
   ·have h3:(mag q).length≠0:=fun h=>h0 (Zxq.1 h)
    obtain ⟨d',hd'⟩:∃ d,(mag q)[(mag q).length - 1]?=some d:=⟨_,List.getElem?_eq_getElem (by omega)⟩
    obtain ⟨k1,k2,k3⟩:=Zb5 hd'
    rw [Zck _ k2,k1]
    have hl0:q / 1000000000 ^ ((mag q).length - 1+1)=0:=by
     rw [show (mag q).length - 1+1=(mag q).length by omega]
     exact Nat.div_eq_of_lt (Zai q)
    rw [hl0,Nat.mul_zero,Nat.add_zero]
    have:=Zbt (k:=8) (r:=d') (by simpa using k3)
    omega
  refine Tri.loop (ι:=Nat × Value × Value) (fun s=>s.1≤(mag n).length - 1∧(s.2.1=.pointer none∨s.2.1=.pointer (some ⟨b,0,none⟩))∧n / 1000000000 ^ s.1≠0) (fun s=>s.1)
   (fun s=>[(0,v),(3,.pointer (some ⟨b,0,none⟩)),(4,.func (.func 205) #[] #[.pointer (some ⟨b,0,none⟩)]),(6,.int .i64 ((s.1:Int) - 1))])
   (fun s=>.cl b [s.2.1,s.2.2] 288::.ow cU8 5 s.2.2 (Lib.decDigits (n / 1000000000 ^ s.1))::As) ((mag n).length - 1,p,bv) ⟨Nat.le_refl _,hp,g2⟩ Zad Zaa ?_
  rintro ⟨j,p,bv⟩ ⟨hj,hp,hj0⟩
  simp only at hj hp hj0
  show Tri _ _ _ _ [(0,v),(3,_),(4,_),(6,.int .i64 ((j:Int) - 1))] (.cl b [p,bv] 288::.ow cU8 5 bv (Lib.decDigits (n / 1000000000 ^ j))::As) _
  have hlj:=hbl (n / 1000000000 ^ j) (Nat.div_le_self _ _)
  cases j with
  | zero =>
   rw [show ((0:Nat):Int) - 1=-1 from rfl]
   repeat' first|refine Kz ?_|intro _
   refine TL.call rfl rfl rfl (Zsa (by intro h;have:=congrArg List.length h;rw [Zbm] at this;have:=Zdn (n / 1000000000 ^ 0);simp at *;omega) (by omega)) ?_
   rintro _ As ⟨rfl,rfl⟩
   repeat' first|refine Kz ?_|intro _
   (refine Zac ?_)
   exact ⟨_,⟨by simp,rfl⟩,Zaa⟩
  | succ j =>
   rw [show ((j+1:Nat):Int) - 1=(j:Int) by omega]
   obtain ⟨d',hd'⟩:∃ d,(mag n)[j]?=some d:=⟨_,List.getElem?_eq_getElem (by omega)⟩
   obtain ⟨k1,k2,k3⟩:=Zb5 hd'
   repeat' first|refine Kz ?_|intro _
   refine TL.callv rfl rfl rfl rfl (Zsr ht (wd:=9) hp k3 (by omega) (by omega)) ?_
   rintro _ _ ⟨p',bv',hp',rfl⟩
   rw [← Zm5 hj0 k3,← k1]
   repeat' first|refine Kz ?_|intro _
   exact Post.round (j,p',bv') ⟨by simp only;omega,hp',k2⟩ (by simp only;omega) Zad Zaa
theorem Zjf (ht:Tab w0) {v:Value} {n:Nat} [hr:RdIn As v Nat (cN .u32) (mag n)] (hl:(mag n).length≤1000000000) :
  CQ Tryz.prog w0 167 [v] As (.int .i64 (Lib.nDigits n)):=by
 refine Zab Tryz.func167 rfl Tryz.ntmps167 rfl ?_
 repeat' first|refine Kz ?_|intro _
 refine TL.call rfl rfl rfl Zc8 ?_
 rintro _ As ⟨rfl,rfl⟩
 repeat' first|refine Kz ?_|intro _
 (refine Kx (fun hc=>?_) fun hc=>?_)
 ·subst hc
  repeat' first|refine Kz ?_|intro _
  (refine Zac ?_)
  exact ⟨_,⟨by rw [Lib.nDigits_small (by decide)];rfl,rfl⟩,Zaa⟩
 ·have h1:(mag n).length≠0:=fun h=>hc (Zxq.1 h)
  obtain ⟨d,hd⟩:∃ d,(mag n)[(mag n).length - 1]?=some d:=⟨_,List.getElem?_eq_getElem (by omega)⟩
  obtain ⟨g1,g2,g3⟩:=Zb5 hd
  have hlast:n / 1000000000 ^ ((mag n).length - 1+1)=0:=by
   rw [show (mag n).length - 1+1=(mag n).length by omega]
   exact Nat.div_eq_of_lt (Zai n)
  rw [hlast,Nat.mul_zero,Nat.add_zero] at g1
  have hn:=Zck _ g2
  rw [g1] at hn
  have hdn:=Zbt (k:=8) (r:=d) (by simpa using g3)
  repeat' first|refine Kz ?_|intro _
  refine TL.call rfl rfl rfl (Zmr ht (n:=(d:Int)) (by omega) (by omega)) ?_
  rintro _ As ⟨rfl,rfl⟩
  rw [Lib.itoa_nonneg]
  have hdl:=Zbm d
  repeat' first|refine Kz ?_|intro _
  (refine Zac ?_)
  refine ⟨_,⟨?_,rfl⟩,Zaa⟩
  rw [hn,hdl]
  congr 1
  omega
end Go.Proofs.YtbfgldlfciimiaaGreatDoor.Q
namespace Go.Proofs.YtbfgldlfciimiaaGreatDoor.Q
open Go Go.Sx
variable {w0:World} {As:List Ent}
theorem Zmu {l:List UInt8} (hd:∀ c∈l,isDig c=true) (h0:0 < l.length) (hl:l.length≤1000) :
  CallsS Tryz.prog w0 188 [.string ⟨l.toArray⟩] As (MagR As (numOf l)):=by
 refine Zff ?_
 refine Zab Tryz.func188 rfl Tryz.ntmps188 rfl ?_
 repeat' first|refine Kz ?_|intro _
 refine Tri.loop (ι:=Value × List Nat × Nat) (fun s=>0 < s.2.2∧s.2.2≤l.length∧s.2.1++grp (l.take s.2.2)=grp l∧s.2.1.length+s.2.2≤l.length) (fun s=>s.2.2)
  (fun s=>[(0,.string ⟨l.toArray⟩),(3,s.1),(4,.int .i64 (s.2.2:Int))]) (fun s=>.ow (cN .u32) 256 s.1 s.2.1::As) (.slice none 0 0,[],l.length) ⟨h0,Nat.le_refl _,by simp,by simp⟩ Zad (Za3 _) ?_
 rintro ⟨mv,g,en⟩ ⟨hen0,hen,hg,hgl⟩
 simp only at hen0 hen hg hgl
 show Tri _ _ _ _ [(0,_),(3,mv),(4,.int .i64 (en:Int))] (.ow (cN .u32) 256 mv g::As) _
 obtain ⟨st,hst⟩:∃ st:Nat,(if (en:Int) - 9 < 0 then 0 else (en:Int) - 9)=(st:Int):=⟨en - 9,by split<;>omega⟩
 have hst2:st=en - 9:=by split at hst<;>omega
 repeat' first|refine Kz ?_|intro _
 rw [hst]
 repeat' first|refine Kz ?_|intro _
 refine Tri.loop (ι:=Nat) (fun i=>st≤i∧i≤en) (fun i=>en - i)
  (fun i=>[(0,.string ⟨l.toArray⟩),(3,mv),(4,.int .i64 (en:Int)),(5,.int .i64 (st:Int)),(6,.int .u32 (numOf ((l.take i).drop st):Nat)),(7,.int .i64 (i:Int))]) (fun _=>.ow (cN .u32) 256 mv g::As) st ⟨Nat.le_refl _,by omega⟩ ?_ Zaa ?_
 ·rw [show numOf ((l.take st).drop st)=0 by rw [List.drop_eq_nil_of_le (by simp;omega)];rfl]
  (exact Zad)
 ·intro i ⟨hi1,hi2⟩
  repeat' first|refine Kz ?_|intro _
  (refine Kx (fun hc=>?_) fun hc=>?_)
  ·obtain ⟨c,hc'⟩:∃ c,l[i]?=some c:=⟨_,List.getElem?_eq_getElem (by omega)⟩
   have hcd:=Zjg.1 (hd c (List.mem_of_getElem? hc'))
   have hi3:=(List.getElem?_eq_some_iff.1 hc').1
   have e1:(l.take (i+1)).drop st=(l.take i).drop st++[c]:=by
    rw [List.take_succ_eq_append_getElem hi3,(List.getElem?_eq_some_iff.1 hc').2,List.drop_append_of_le_length (by simp;omega)]
   have e2:=Zdt (l:=(l.take i).drop st) fun c hc=>hd c (List.mem_of_mem_take (List.mem_of_mem_drop hc))
   have e3:((l.take i).drop st).length≤8:=by simp;omega
   have e4:=Nat.pow_le_pow_right (n:=10) (by omega) e3
   repeat' first|refine Kz ?_|intro _
   refine Post.round (i+1) ⟨by omega,by omega⟩ (by omega) ?_ Zaa
   rw [show ((numOf ((l.take (i+1)).drop st):Nat):Int)=(numOf ((l.take i).drop st):Int) * 10+((c.toNat:Int) - 48) by rw [e1,Zdm,dig];omega]
   (exact Zad)
  ·have hie:i=en:=by omega
   subst hie
   have hgl2:g.length≤1000:=by omega
   repeat' first|refine Kz ?_|intro _
   (refine Kx (fun hc=>?_) fun hc=>?_)
   ·have hst0:st=0:=by omega
    subst hst0
    have e1:g++[numOf (l.take i)]=grp l:=by rw [← hg,Zx2 (by simp;omega)]
    rw [List.drop_zero,e1]
    obtain ⟨k1,k2⟩:=Zx1 l.length (Nat.le_refl _) hd
    have k3:(grp l).length≤1001:=by rw [← e1];simp;omega
    repeat' first|refine Kz ?_|intro _
    rename_i mv2
    refine TL.ents Ents.freeze ?_
    refine TL.call rfl rfl rfl (Zdj k2 (by omega)) ?_
    rintro _ _ ⟨p,cap,rfl,rfl⟩
    rw [k1]
    repeat' first|refine Kz ?_|intro _
    (refine Zac ?_)
    exact ⟨_,rfl,Zaa⟩
   ·have e2:grp (l.take i)=numOf ((l.take i).drop (i - 9))::grp (l.take (i - 9)):=by
     rw [Z3n (by simp;omega)]
     simp only [List.length_take,Nat.min_eq_left hen,List.take_take]
     rw [Nat.min_eq_left (by omega)]
    repeat' first|refine Kz ?_|intro _
    rename_i mv2
    refine Post.round (mv2,g++[numOf ((l.take i).drop st)],i - 9) ⟨by simp only;omega,by simp only;omega,by simp only;rw [← hg,e2,hst2];simp,by simp;omega⟩ (by simp only;omega) ?_ Zaa
    rw [show ((i - 9:Nat):Int)=(i:Int) - 9 by omega]
    (exact Zad)
end Go.Proofs.YtbfgldlfciimiaaGreatDoor.Q
namespace Go.Proofs.YtbfgldlfciimiaaGreatDoor.Q
open Go Go.Sx
variable {w0:World} {As:List Ent}
theorem Zqb {v o:Value} {a b:Nat} [hf:RdIn As v Nat (cN .u32) (mag a)] [hg:RdIn As o Nat (cN .u32) (mag b)] (ha:(mag a).length≤100000000) (hb:(mag b).length≤100000000):CallsS Tryz.prog w0 201 [v,o] As (MagR As (a+b)):=by
 refine Zff ?_
 refine Zab Tryz.func201 rfl Tryz.ntmps201 rfl ?_
 repeat' first|refine Kz ?_|intro _
 refine Tri.mid (fun e' As'=>∃ v' o' a' b',RdIn As v' Nat (cN .u32) (mag a')∧RdIn As o' Nat (cN .u32) (mag b')∧(mag b').length≤(mag a').length∧(mag a').length≤100000000∧a+b=a'+b'∧e'=[(0,v'),(1,o')]∧As'=As) ?_ ?_
 ·(refine Kx (fun hc=>?_) fun hc=>?_)
  ·repeat' first|refine Kz ?_|intro _
   exact Post.cut _ _ ⟨o,v,b,a,hg,hf,by omega,hb,by omega,rfl,rfl⟩ Zad Zaa
  ·repeat' first|refine Kz ?_|intro _
   exact Post.cut _ _ ⟨v,o,a,b,hf,hg,by omega,ha,rfl,rfl,rfl⟩ Zad Zaa
 ·rintro _ As ⟨v',o',a',b',hf',hg',hlen,hla,hab,rfl,rfl⟩
  rw [hab]
  have hsa:=Za2 a'
  have hsb:=Za2 b'
  repeat' first|refine Kz ?_|intro _
  rename_i sv
  refine Tri.loop (ι:=Nat × Value × List Nat × Nat) (fun s=>s.1≤(mag a').length∧s.2.2.1.length=s.1∧(∀ x∈s.2.2.1,x < 1000000000)∧s.2.2.2≤1∧valB s.2.2.1+1000000000 ^ s.1 * s.2.2.2=valB ((mag a').take s.1)+valB ((mag b').take s.1)) (fun s=>(mag a').length - s.1)
   (fun s=>[(1,o'),(5,s.2.1),(6,.int .u32 (s.2.2.2:Int)),(20,v'),(21,.int .i64 (mag a').length),(22,.int .i64 (s.1:Int))]) (fun s=>.ow (cN .u32) 256 s.2.1 s.2.2.1::As)
   (0,sv,[],0) ⟨by omega,rfl,(fun _ h=>by cases h),Nat.zero_le 1,by simp [valB]⟩ Zad (by simp only [List.replicate_zero];(exact Zaa)) ?_
  rintro ⟨i,sv,xs,c⟩ ⟨hi,hxl,hxs,hc1,hval⟩
  simp only at hi hxl hxs hc1 hval
  show Tri _ _ _ _ [(1,o'),(5,sv),(6,.int .u32 (c:Int)),(20,v'),(21,_),(22,.int .i64 (i:Int))] (.ow (cN .u32) 256 sv xs::As) _
  repeat' first|refine Kz ?_|intro _
  (refine Kx (fun hc=>?_) fun hc=>?_)
  ·obtain ⟨d,hd⟩:∃ d,(mag a')[i]?=some d:=⟨_,List.getElem?_eq_getElem (by omega)⟩
   have hd9:=hsa d (List.mem_of_getElem? hd)
   have hta:=Zaw hd
   obtain ⟨ee,he9,htb,heb⟩:∃ ee,ee < 1000000000∧valB ((mag b').take (i+1))=valB ((mag b').take i)+1000000000 ^ i * ee∧((i < (mag b').length∧(mag b')[i]?=some ee)∨(¬ i < (mag b').length∧ee=0)):=by
    by_cases h:i < (mag b').length
    ·have h1:(mag b')[i]?=some (mag b')[i]:=List.getElem?_eq_getElem h
     exact ⟨_,hsb _ (List.mem_of_getElem? h1),Zaw h1,.inl ⟨h,h1⟩⟩
    ·exact ⟨0,by omega,by rw [Zak (by omega),Zak (by omega)];omega,.inr ⟨h,rfl⟩⟩
   repeat' first|refine Kz ?_|intro _
   refine Tri.mid (fun e' As'=>e'=[(1,o'),(5,sv),(8,.int .u32 ((d:Int)+c+ee)),(20,v'),(21,.int .i64 (mag a').length),(22,.int .i64 (i:Int))]∧As'=.ow (cN .u32) 256 sv xs::As) ?_ ?_
   ·rcases heb with ⟨h1,h2⟩|⟨h1,rfl⟩
    ·repeat' first|refine Kz ?_|intro _
     exact Post.cut _ _ ⟨rfl,rfl⟩ Zad Zaa
    ·repeat' first|refine Kz ?_|intro _
     refine Post.cut _ _ ⟨rfl,rfl⟩ ?_ Zaa
     rw [show ((d:Int)+c+((0:Nat):Int))=(d:Int)+c by omega]
     (exact Zad)
   ·rintro _ _ ⟨rfl,hB⟩
    subst hB
    repeat' first|refine Kz ?_|intro _
    (refine Kx (fun hc=>?_) fun hc=>?_)
    ·have e9:((d:Int)+c+ee - 1000000000)=((d+c+ee - 1000000000:Nat):Int):=by omega
     repeat' first|refine Kz ?_|intro _
     rw [e9]
     repeat' first|refine Kz ?_|intro _
     rename_i b9 sv2
     refine Post.round (i+1,sv2,xs++[d+c+ee - 1000000000],1) ⟨by simp only;omega,by simp;omega,Zfk hxs (by omega),Nat.le_refl 1,?_⟩ (by simp only;omega) Zad Zaa
     simp only
     rw [Zgp,hxl,hta,htb,Nat.pow_succ]
     exact Zi7 hval (by omega)
    ·have e9:((d:Int)+c+ee)=((d+c+ee:Nat):Int):=by omega
     rw [e9]
     repeat' first|refine Kz ?_|intro _
     rename_i b9 sv2
     refine Post.round (i+1,sv2,xs++[d+c+ee],0) ⟨by simp only;omega,by simp;omega,Zfk hxs (by omega),Nat.zero_le 1,?_⟩ (by simp only;omega) Zad Zaa
     simp only
     rw [Zgp,hxl,hta,htb,Nat.pow_succ]
     exact Zi7 hval (by omega)
  ·have hie:i=(mag a').length:=by omega
   rw [Zak (by omega),Zak (by omega),Za8,Za8] at hval
   have hxl2:xs.length≤100000000:=by omega
   repeat' first|refine Kz ?_|intro _
   (refine Kx (fun hc=>?_) fun hc=>?_)
   ·have hc0:c=1:=by omega
    subst hc0
    have h1:=Zw3 (a:=a') (b:=b') hxs (by omega) (by rw [hxl];omega)
    repeat' first|refine Kz ?_|intro _
    rename_i b9 sv2
    (refine Zac ?_)
    refine ⟨_,rfl,?_⟩
    rw [← h1]
    exact Ents.trans Ents.freeze Zaa
   ·have hc0:c=0:=by omega
    subst hc0
    have h1:=Zw4 (a:=a') (b:=b') hxs (by omega) (by omega) hlen
    repeat' first|refine Kz ?_|intro _
    (refine Zac ?_)
    refine ⟨_,rfl,?_⟩
    rw [← h1]
    exact Ents.trans Ents.freeze Zaa
theorem Zc7 {v o:Value} {a b:Nat} [hf:RdIn As v Nat (cN .u32) (mag a)] [hg:RdIn As o Nat (cN .u32) (mag b)] (ha:(mag a).length≤100000000) (hb:(mag b).length≤100000000):CQ Tryz.prog w0 166 [v,o] As (.int .i64 (Lib.compareInt a b)):=by
 refine Zab Tryz.func166 rfl Tryz.ntmps166 rfl ?_
 have hlt:∀ {a b:Nat},a < b→Lib.compareInt a b=-1:=fun h=>by rw [Lib.compareInt,if_pos (by omega)]
 have hgt:∀ {a b:Nat},b < a→Lib.compareInt a b=1:=fun h=>by rw [Lib.compareInt,if_neg (by omega),if_pos (by omega)]
 repeat' first|refine Kz ?_|intro _
 (refine Kx (fun hc=>?_) fun hc=>?_)
 ·repeat' first|refine Kz ?_|intro _
  refine TL.call rfl rfl rfl Zjn ?_
  rintro _ As ⟨rfl,rfl⟩
  repeat' first|refine Kz ?_|intro _
  (refine Zac ?_)
  refine ⟨_,⟨?_,rfl⟩,Zaa⟩
  rcases Nat.lt_or_gt_of_ne (show (mag a).length≠(mag b).length by omega) with h|h
  ·rw [hlt h,hlt (Zrg h)]
  ·rw [hgt h,hgt (Zrg h)]
 ·have hlen:(mag b).length=(mag a).length:=by omega
  have hdiv:∀ {n:Nat},(mag n).length=(mag a).length→n / 1000000000 ^ (mag a).length=0:=fun h=>by rw [← h];exact Nat.div_eq_of_lt (Zai _)
  repeat' first|refine Kz ?_|intro _
  refine Tri.loop (ι:=Nat) (fun j=>j≤(mag a).length∧a / 1000000000 ^ j=b / 1000000000 ^ j) (fun j=>j)
   (fun j=>[(0,v),(1,o),(5,.int .i64 ((j:Int) - 1))]) (fun _=>As) (mag a).length ⟨Nat.le_refl _,by rw [hdiv rfl,hdiv hlen]⟩ Zad Zaa ?_
  intro j ⟨hj,hq⟩
  cases j with
  | zero =>
   rw [show ((0:Nat):Int) - 1=-1 from rfl]
   repeat' first|refine Kz ?_|intro _
   (refine Zac ?_)
   have:a=b:=by simpa using hq
   subst this
   exact ⟨_,⟨by rw [Lib.compareInt,if_neg (by omega),if_neg (by omega)],rfl⟩,Zaa⟩
  | succ j =>
   rw [show ((j+1:Nat):Int) - 1=(j:Int) by omega]
   obtain ⟨d,hd⟩:∃ d,(mag a)[j]?=some d:=⟨_,List.getElem?_eq_getElem (by omega)⟩
   obtain ⟨ee,he⟩:∃ d,(mag b)[j]?=some d:=⟨_,List.getElem?_eq_getElem (by omega)⟩
   obtain ⟨k1,_,_⟩:=Zb5 hd
   obtain ⟨l1,_,_⟩:=Zb5 he
   repeat' first|refine Kz ?_|intro _
   refine Zam (.take 0 (.take 1 (.take 2 (.take 3 (.take 4 (.take 5 (.take 6 (.take 7 (.take 8 (.done)))))))))) ?_
   repeat' first|refine Kf ?_|intro _|constructor
   (refine Kx (fun hc=>?_) fun hc=>?_)
   ·repeat' first|refine Kf ?_|intro _|constructor
    refine Zam (.take 0 (.take 1 (.take 2 (.take 3 (.take 4 (.take 5 (.take 6 (.take 7 (.all [(8,.take 9 (.done))]))))))))) ?_
    repeat' first|refine Kf ?_|intro _|constructor
    refine T1.call rfl rfl rfl rfl Zm9 ?_
    rintro _ As ⟨rfl,rfl⟩
    repeat' first|refine Kf ?_|intro _|constructor
    (refine Zac ?_)
    refine ⟨_,⟨?_,rfl⟩,Zaa⟩
    rcases Nat.lt_or_gt_of_ne (show d≠ee by omega) with h|h
    ·rw [hlt h,hlt (Zjo hq k1 l1 h)]
    ·rw [hgt h,hgt (Zjo hq.symm l1 k1 h)]
   ·repeat' first|refine Kf ?_|intro _|constructor
    refine Post.round j ⟨by omega,?_⟩ (by omega) Zad Zaa
    have:d=ee:=by omega
    rw [k1,l1,hq,this]
end Go.Proofs.YtbfgldlfciimiaaGreatDoor.Q
namespace Go.Proofs.YtbfgldlfciimiaaGreatDoor.Q
open Go Go.Sx
variable {w0:World} {As:List Ent}
theorem Zjd {v o:Value} {a b:Nat} [hf:RdIn As v Nat (cN .u32) (mag a)] [hg:RdIn As o Nat (cN .u32) (mag b)] (hab:b≤a) (ha:(mag a).length≤100000000):CallsS Tryz.prog w0 202 [v,o] As (MagR As (a - b)):=by
 have hlb:=Zah hab
 have hsa:=Za2 a
 have hsb:=Za2 b
 have hrl:(List.replicate (mag a).length 0).length=(mag a).length:=List.length_replicate
 refine Zab Tryz.func202 rfl Tryz.ntmps202 rfl ?_
 repeat' first|refine Kz ?_|intro _
 rename_i sv
 refine Tri.loop (ι:=Nat × List Nat × Nat) (fun s=>s.1≤(mag a).length∧s.2.1.length=(mag a).length∧(∀ x∈s.2.1,x < 1000000000)∧s.2.2≤1∧valB (s.2.1.take s.1)+valB ((mag b).take s.1)=valB ((mag a).take s.1)+1000000000 ^ s.1 * s.2.2) (fun s=>(mag a).length - s.1)
  (fun s=>[(1,o),(5,sv),(6,.int .u32 (s.2.2:Int)),(13,v),(14,.int .i64 (mag a).length),(15,.int .i64 (s.1:Int))]) (fun s=>.ow (cN .u32) 256 sv s.2.1::As)
  (0,List.replicate (mag a).length 0,0) ⟨by omega,hrl,(fun x h=>by rw [List.eq_of_mem_replicate h];decide),Nat.zero_le 1,by simp [valB]⟩ Zad Zaa ?_
 rintro ⟨i,xs,c⟩ ⟨hi,hxl,hxs,hc1,hval⟩
 simp only at hi hxl hxs hc1 hval
 show Tri _ _ _ _ [(1,o),(5,sv),(6,.int .u32 (c:Int)),(13,v),(14,_),(15,.int .i64 (i:Int))] (.ow (cN .u32) 256 sv xs::As) _
 repeat' first|refine Kz ?_|intro _
 (refine Kx (fun hc=>?_) fun hc=>?_)
 ·obtain ⟨d,hd⟩:∃ d,(mag a)[i]?=some d:=⟨_,List.getElem?_eq_getElem (by omega)⟩
  have hd9:=hsa d (List.mem_of_getElem? hd)
  have hta:=Zaw hd
  obtain ⟨ee,he9,htb,heb⟩:∃ ee,ee < 1000000000∧valB ((mag b).take (i+1))=valB ((mag b).take i)+1000000000 ^ i * ee∧((i < (mag b).length∧(mag b)[i]?=some ee)∨(¬ i < (mag b).length∧ee=0)):=by
   by_cases h:i < (mag b).length
   ·have h1:(mag b)[i]?=some (mag b)[i]:=List.getElem?_eq_getElem h
    exact ⟨_,hsb _ (List.mem_of_getElem? h1),Zaw h1,.inl ⟨h,h1⟩⟩
   ·exact ⟨0,by omega,by rw [Zak (by omega),Zak (by omega)];omega,.inr ⟨h,rfl⟩⟩
  have hset:∀ g c',g < 1000000000→c'≤1→g+c+ee=d+1000000000 * c'→∀ {Q:Exit→Act→World→Prop} {e:Env},Sub e [(1,o),(5,sv),(6,.int .u32 (c':Int)),(13,v),(14,.int .i64 (mag a).length),(15,.int .i64 ((i+1:Nat):Int))] →
    valB ((xs.set i g).take (i+1))+valB ((mag b).take (i+1))=valB ((mag a).take (i+1))+1000000000 ^ (i+1) * c':=fun g c' hg9 hc9 hgc Q e _=>by
   have h1:(xs.set i g)[i]?=some g:=by rw [List.getElem?_set,if_pos rfl,if_pos (by omega)]
   rw [Zaw h1,List.take_set_of_le (Nat.le_refl i),hta,htb,Nat.pow_succ]
   exact Zoy hval hgc
  repeat' first|refine Kz ?_|intro _
  refine Tri.mid (fun e' As'=>e'=[(1,o),(5,sv),(7,.int .i64 (i:Int)),(8,.int .u32 (d:Int)),(9,.int .u32 ((c:Int)+ee)),(13,v),(14,.int .i64 (mag a).length),(15,.int .i64 (i:Int))]∧As'=.ow (cN .u32) 256 sv xs::As) ?_ ?_
  ·rcases heb with ⟨h1,h2⟩|⟨h1,rfl⟩
   ·repeat' first|refine Kz ?_|intro _
    exact Post.cut _ _ ⟨rfl,rfl⟩ Zad Zaa
   ·repeat' first|refine Kz ?_|intro _
    refine Post.cut _ _ ⟨rfl,rfl⟩ ?_ Zaa
    rw [show ((c:Int)+((0:Nat):Int))=(c:Int) by omega]
    (exact Zad)
  ·rintro _ _ ⟨rfl,hB⟩
   subst hB
   repeat' first|refine Kz ?_|intro _
   (refine Kx (fun hc=>?_) fun hc=>?_)
   ·have e9:((d:Int)+1000000000 - ((c:Int)+ee))=((d+1000000000 - (c+ee):Nat):Int):=by omega
    repeat' first|refine Kz ?_|intro _
    rw [e9]
    repeat' first|refine Kz ?_|intro _
    refine Post.round (i+1,xs.set i (d+1000000000 - (c+ee)),1) ⟨by simp only;omega,by simp;omega,Zax hxs (by omega),Nat.le_refl 1,hset _ 1 (by omega) (by omega) (by omega) (Q:=fun _ _ _=>True) (e:=[(1,o),(5,sv),(6,.int .u32 ((1:Nat):Int)),(13,v),(14,.int .i64 (mag a).length),(15,.int .i64 ((i+1:Nat):Int))]) Zad⟩ (by simp only;omega) Zad Zaa
   ·have e9:((d:Int) - ((c:Int)+ee))=((d - (c+ee):Nat):Int):=by omega
    repeat' first|refine Kz ?_|intro _
    rw [e9]
    repeat' first|refine Kz ?_|intro _
    refine Post.round (i+1,xs.set i (d - (c+ee)),0) ⟨by simp only;omega,by simp;omega,Zax hxs (by omega),Nat.zero_le 1,hset _ 0 (by omega) (by omega) (by omega) (Q:=fun _ _ _=>True) (e:=[(1,o),(5,sv),(6,.int .u32 ((0:Nat):Int)),(13,v),(14,.int .i64 (mag a).length),(15,.int .i64 ((i+1:Nat):Int))]) Zad⟩ (by simp only;omega) Zad Zaa
 ·have hie:i=(mag a).length:=by omega
  rw [Zak (by omega),Zak (by omega),Zak (by omega),Za8,Za8] at hval
  have hX:=Zdi hxs
  rw [hxl,← hie] at hX
  have hc0:c=0:=by
   rcases Nat.lt_or_ge 0 c with h|h
   ·have:c=1:=by omega
    subst this
    omega
   ·omega
  subst hc0
  have hv:valB xs=a - b:=by omega
  repeat' first|refine Kz ?_|intro _
  refine TL.ents Ents.freeze ?_
  refine TL.call rfl rfl rfl (Zdj hxs (by omega)) ?_
  rintro _ _ ⟨p,cap,rfl,rfl⟩
  rw [hv]
  repeat' first|refine Kz ?_|intro _
  (refine Zac ?_)
  exact ⟨_,⟨p,cap,rfl,rfl⟩,Zaa⟩
end Go.Proofs.YtbfgldlfciimiaaGreatDoor.Q
