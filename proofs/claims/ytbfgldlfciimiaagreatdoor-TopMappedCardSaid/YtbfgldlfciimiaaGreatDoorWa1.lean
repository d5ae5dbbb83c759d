/- Walks: strings. -/
import Derived.Test.YtbfgldlfciimiaaGreatDoorTy
import Derived.Test.YtbfgldlfciimiaaGreatDoorSx9
import Derived.Test.YtbfgldlfciimiaaGreatDoorShelf
import Derived.Test.YtbfgldlfciimiaaGreatDoorPl
set_option maxHeartbeats 1000000
namespace Go.Proofs.YtbfgldlfciimiaaGreatDoor
open Go Go.Sx
variable {w0:World} {As:List Ent}
instance:Same1 Tryz.prog 240:=⟨fun x w=>by
 rw [run_callFunc_extern Tryz.func240 (by kernel_rfl) (by kernel_rfl) (by kernel_rfl) (e:=Extern.AbiNoEscape.same) (by kernel_rfl)]
 rfl⟩
instance:ElC Tryz.prog 5 UInt8 cU8 0 1:=⟨by obtain ⟨i,h1,h2,h3,h4⟩:=(inferInstance:TI Tryz.prog 5 _ _ _).info;exact ⟨i,_,h1,h2,h3,h4,rfl⟩,by decide⟩
theorem CallsS.same {f:FuncId} {args:List Value} {v:Value} (h:∀ w,Calls Tryz.prog f args.toArray w fun e w'=>e=.returned v∧w'=w):CallsS Tryz.prog w0 f args As fun u Bs=>u=v∧Bs=As :=
 CallsS.mk fun w hs=>(h w).mono fun en w' ⟨h1,h2⟩=>⟨v,As,h1,⟨rfl,rfl⟩,by rw [h2];exact hs⟩
theorem Zk0 {s:List UInt8}:CallsS Tryz.prog w0 187 [.string ⟨s.toArray⟩,.string ⟨#[45]⟩] As fun u Bs=>u=.tuple #[.string ⟨(Lib.trimPrefix s [45]).toArray⟩,.bool (Lib.hasPrefix s [45])]∧Bs=As :=
 CallsS.same fun w=>Tryz.strings_CutPrefix ⟨s.toArray⟩ ⟨#[45]⟩ w
theorem Zjn {x y:Int}:CallsS Tryz.prog w0 203 [.int .i64 x,.int .i64 y] As fun u Bs=>u=.int .i64 (Lib.compareInt x y)∧Bs=As :=
 CallsS.same fun w=>Tryz.cmp_Compare_int x y w
def Tab (w : World) : Prop := Lib.TabIs Tryz.prog w "internal/strconv.uint64pow10" .u64 Lib.pow10Tab
theorem Tab.keep {w:World} (ht:Tab w0) (h:St w0 w As):Tab w:=by
 unfold Tab Lib.TabIs World.var? at *
 obtain ⟨g,hg,h1⟩:=Option.bind_eq_some_iff.1 ht
 rw [hg,Option.bind_some]
 cases ho:w0.heap[g]? with
 | none=>rw [ho] at h1;cases h1
 | some o=>rw [St.old h ho];rw [ho] at h1;exact h1
theorem Zmr (ht:Tab w0) {n:Int} (h0:-9223372036854775808≤n) (h1:n≤9223372036854775807):CallsS Tryz.prog w0 97 [.int .i64 n] As fun u Bs=>u=.string ⟨(Lib.itoa n).toArray⟩∧Bs=As :=
 CallsS.mk fun w hs=>(Tryz.strconv_Itoa n h0 h1 w (ht.keep hs)).mono fun en w' ⟨h2,k,os,h3⟩=>⟨_,As,h2,⟨rfl,rfl⟩,by rw [h3];exact hs.drewN.grow⟩

/-! strings.Builder -/
def Bld (b:Nat) (bs:List UInt8) (As Bs:List Ent):Prop:=∃ p bv,(p=.pointer none∨p=.pointer (some ⟨b,0,none⟩))∧Bs=.cl b [p,bv] 288::.ow cU8 5 bv bs::As
theorem Zk1 {b:Nat} {p bv:Value} (hp:p=.pointer none∨p=.pointer (some ⟨b,0,none⟩)):CallsS Tryz.prog w0 229 [.pointer (some ⟨b,0,none⟩)] (.cl b [p,bv] 288::As) fun u Bs=>u=.tuple #[]∧Bs=.cl b [.pointer (some ⟨b,0,none⟩),bv] 288::As:=by
 refine Zab Tryz.func229 rfl Tryz.ntmps229 rfl ?_
 rcases hp with rfl|rfl
 ·repeat' first|refine Kz ?_|intro _
  refine TL.f rfl rfl (Z02 (by decide) rfl (by exact Nat.zero_lt_succ 1)) ?_
  repeat' first|refine Kz ?_|intro _
  refine TL.f rfl rfl (Z01 rfl (by kernel_rfl)) ?_
  repeat' first|refine Kz ?_|intro _
  exact Kv
 ·repeat' first|refine Kz ?_|intro _
  exact Kv
theorem Zkm {b:Nat} {p bv:Value} {bs:List UInt8} {c:UInt8} (hp:p=.pointer none∨p=.pointer (some ⟨b,0,none⟩)) (hl:bs.length≤1000000000) :
  CallsS Tryz.prog w0 206 [.pointer (some ⟨b,0,none⟩),.int .u8 (c.toNat:Int)] (.cl b [p,bv] 288::.ow cU8 5 bv bs::As) fun u Bs=>u=.nilIface∧Bld b (bs++[c]) As Bs:=by
 refine Zab Tryz.func206 rfl Tryz.ntmps206 rfl ?_
 repeat' first|refine Kz ?_|intro _
 refine Kt rfl (Zk1 hp) ?_
 repeat' first|refine Kz ?_|intro _
 (refine Zac ?_)
 rename_i b1 v1
 exact ⟨_,⟨rfl,_,v1,.inr rfl,rfl⟩,Zaa⟩
theorem Zh2 {b:Nat} {p bv:Value} {bs s:List UInt8} (hp:p=.pointer none∨p=.pointer (some ⟨b,0,none⟩)) (hl:bs.length≤1000000000) (hs:s.length≤1000000000) :
  CallsS Tryz.prog w0 207 [.pointer (some ⟨b,0,none⟩),.string ⟨s.toArray⟩] (.cl b [p,bv] 288::.ow cU8 5 bv bs::As) fun _ Bs=>Bld b (bs++s) As Bs:=by
 refine Zab Tryz.func207 rfl Tryz.ntmps207 rfl ?_
 repeat' first|refine Kz ?_|intro _
 refine Kt rfl (Zk1 hp) ?_
 repeat' first|refine Kz ?_|intro _
 (refine Zac ?_)
 rename_i v1
 exact ⟨_,⟨_,v1,.inr rfl,rfl⟩,Zaa⟩
theorem Zsa {b:Nat} {p bv:Value} {bs:List UInt8} (h0:bs≠[]) (hl:bs.length≤1000000000) :
  CallsS Tryz.prog w0 208 [.pointer (some ⟨b,0,none⟩)] (.cl b [p,bv] 288::.ow cU8 5 bv bs::As) fun u Bs=>u=.string ⟨bs.toArray⟩∧Bs=As:=by
 refine Zab Tryz.func208 rfl Tryz.ntmps208 rfl ?_
 repeat' first|refine Kz ?_|intro _
 refine Zag [.cl b [p,bv] 288] [(9,.w bv)] (.take 0 (.take 1 (.take 2 (.take 3 (.take 5 (.take 6 (.take 7 (.take 8 (.take 9 (.all [(4,.all [(10,.take 11 (.done))])])))))))))) ?_
 repeat' first|refine Kf ?_|intro _|constructor
 refine T1.f rfl rfl rfl (Zrz rfl h0) ?_
 repeat' first|refine Kf ?_|intro _|constructor
 refine Z0k rfl rfl rfl (ExR.unsafeString rfl rfl h0 (by kernel_rfl) (by omega)) ?_
 rintro _ _ ⟨rfl,rfl⟩
 repeat' first|refine Kf ?_|intro _|constructor
 exact Kv
end Go.Proofs.YtbfgldlfciimiaaGreatDoor
namespace Go.Proofs.YtbfgldlfciimiaaGreatDoor
open Go Go.Sx
variable {w0:World} {As:List Ent}
instance:ElC Tryz.prog 256 Nat (cN .u32) 0 4:=⟨by obtain ⟨i,h1,h2,h3,h4⟩:=(inferInstance:TI Tryz.prog 256 _ _ _).info;exact ⟨i,_,h1,h2,h3,h4,rfl⟩,by decide⟩
def MagR (As:List Ent) (n:Nat) (v:Value) (Bs:List Ent):Prop:=∃ p cap,v=.slice p (mag n).length cap∧Bs=.ft (rd (cN .u32) v (mag n))::As
theorem Zff {f:FuncId} {args:List Value} {n:Nat} (h:CallsS Tryz.prog w0 f args As fun v Bs=>Bs=.ft (rd (cN .u32) v (mag n))::As):CallsS Tryz.prog w0 f args As (MagR As n) :=
 (Zps (cd:=cN .u32) (xs:=mag n) h fun v Bs h=>by rw [h];infer_instance).mono fun _ _ ⟨p,cap,h1,h2⟩=>⟨p,cap,h1,h2⟩
theorem Zc8 {v:Value} {n:Nat} [RdIn As v Nat (cN .u32) (mag n)]:CQ Tryz.prog w0 217 [v] As (.bool (decide (n=0))):=by
 refine Zab Tryz.func217 rfl Tryz.ntmps217 rfl ?_
 repeat' first|refine Kz ?_|intro _
 (refine Zac ?_)
 refine ⟨_,⟨?_,rfl⟩,Zaa⟩
 congr 1
 rw [Bool.eq_iff_iff,decide_eq_true_eq,decide_eq_true_eq,← Zxq]
 omega
theorem Zdj {v:Value} {xs:List Nat} [hf:FtIn As v Nat (cN .u32) xs] (hs:∀ d∈xs,d < 1000000000) (hl:xs.length≤1000000000):CallsS Tryz.prog w0 218 [v] As (MagR As (valB xs)):=by
 refine Zff ?_
 rw [← Zix hs]
 refine Zab Tryz.func218 rfl Tryz.ntmps218 rfl ?_
 repeat' first|refine Kz ?_|intro _
 refine Tri.loop (ι:=Value × List Nat) (fun s=>s.2.length≤1000000000∧trimL s.2=trimL xs) (fun s=>s.2.length)
  (fun s=>[(0,s.1)]) (fun s=>.ft (rd (cN .u32) s.1 s.2)::As) (v,xs) ⟨hl,rfl⟩ Zad Ents.dup ?_
 rintro ⟨v',ys⟩ ⟨hyl,hy⟩
 simp only at hyl hy
 rcases List.eq_nil_or_concat ys with rfl|⟨zs,d,rfl⟩
 ·show Tri _ _ _ _ [(0,v')] (.ft (rd (cN .u32) v' [])::As) _
  repeat' first|refine Kz ?_|intro _
  (refine Zac ?_)
  exact ⟨_,rfl,by rw [← hy];exact Zaa (Bs:=.ft (rd (cN .u32) v' [])::As)⟩
 ·rw [List.concat_eq_append] at hyl hy ⊢
  have hz:(zs++[d]).length=zs.length+1:=by simp
  have hd:(zs++[d])[(zs++[d]).length - 1]?=some d:=by rw [hz];simp
  have hdr:((zs++[d]).drop 0).take ((zs++[d]).length - 1 - 0)=zs:=by rw [hz];simp
  show Tri _ _ _ _ [(0,v')] (.ft (rd (cN .u32) v' (zs++[d]))::As) _
  repeat' first|refine Kz ?_|intro _
  (refine Kx (fun hc=>?_) fun hc=>?_)
  ·have hd0:d=0:=by omega
   subst hd0
   repeat' first|refine Kz ?_|intro _
   rw [hdr]
   exact Post.round (subV 1 v' 0 ((zs++[0]).length - 1),zs) ⟨by simp only;omega,by rw [← hy,Zhc]⟩ (by simp only;omega) Zad Zaa
  ·repeat' first|refine Kz ?_|intro _
   (refine Zac ?_)
   exact ⟨_,by rw [← hy,Zee (by omega)],Zaa⟩
theorem Zzq {v:Value} {n:Nat} {b:Bool} [hr:RdIn As v Nat (cN .u32) (mag n)]:CQ Tryz.prog w0 178 [v,.bool b] As (.agg #[v,.bool (b&&decide (n≠0))]):=by
 refine Zae v fun p cap hv=>?_
 subst hv
 refine Zab Tryz.func178 rfl Tryz.ntmps178 rfl ?_
 cases b
 ·repeat' first|refine Kz ?_|intro _
  exact Kv
 ·repeat' first|refine Kz ?_|intro _
  refine TL.call rfl rfl rfl Zc8 ?_
  rintro _ As ⟨rfl,rfl⟩
  repeat' first|refine Kz ?_|intro _
  (refine Zac ?_)
  exact ⟨_,⟨by simp,rfl⟩,Zaa⟩
end Go.Proofs.YtbfgldlfciimiaaGreatDoor
