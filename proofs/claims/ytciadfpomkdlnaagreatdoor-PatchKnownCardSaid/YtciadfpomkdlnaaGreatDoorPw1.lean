/- Walks: package patch: names, limits, valid patches. -/
import Derived.Test.YtciadfpomkdlnaaGreatDoorPp1
import Derived.Test.YtciadfpomkdlnaaGreatDoorSxW
import Derived.Test.YtciadfpomkdlnaaGreatDoorCc8
import Derived.Test.YtciadfpomkdlnaaGreatDoorShelf
import Derived.Test.YtciadfpomkdlnaaGreatDoorPl
import Derived.Test.YtciadfpomkdlnaaGreatDoorSxP
set_option maxHeartbeats 1000000
namespace Go.Sx
open Go
structure RawP where
 nm:List UInt8
 p:Option Addr
 c:Nat
 dev:List Int
 l:Int
 a:Int
 b:Int
def RawP.cells (r:RawP):List Value:=[.string ⟨r.nm.toArray⟩,.slice r.p r.dev.length r.c,.int .i64 r.l,.int .i64 r.a,.int .i64 r.b]
def cPt:Cod RawP:=⟨5,RawP.cells,fun _=>rfl,fun r v hv=>by
 simp only [RawP.cells,List.mem_cons,List.not_mem_nil,or_false] at hv
 rcases hv with rfl|rfl|rfl|rfl|rfl<;>rfl⟩
instance {nm:List UInt8} {p:Option Addr} {c:Nat} {dev:List Int} {l a b:Int}:DecL cPt [.string ⟨nm.toArray⟩,.slice p dev.length c,.int .i64 l,.int .i64 a,.int .i64 b] ⟨nm,p,c,dev,l,a,b⟩:=⟨rfl⟩
end Go.Sx
namespace Go.Proofs.YtciadfpomkdlnaaGreatDoor.Q
open Go Go.Sx
variable {w0:World} {As:List Ent}
def ppOf (r:RawP):PP:=(r.nm,r.dev,r.l,r.a,r.b)
theorem Z4m {c:UInt8}:nameC c=true↔((65≤c.toNat∧c.toNat≤90)∨(97≤c.toNat∧c.toNat≤122)∨(48≤c.toNat∧c.toNat≤57)∨c.toNat=45∨c.toNat=95):=by
 have e:∀ n:Nat,n < 256→((c == UInt8.ofNat n)=true↔c.toNat=n):=fun n hn=>by
  rw [beq_iff_eq,← UInt8.toNat_inj,UInt8.toNat_ofNat',Nat.mod_eq_of_lt hn]
 have e1:=e 45 (by decide)
 have e2:=e 95 (by decide)
 unfold nameC
 simp only [Bool.or_eq_true,Bool.and_eq_true,decide_eq_true_eq]
 rw [show (c == 45)=(c == UInt8.ofNat 45) from rfl,show (c == 95)=(c == UInt8.ofNat 95) from rfl,e1,e2]
 omega
theorem Zrz {s:List UInt8} (hl:s.length≤1000000000):CQ Tryz.prog w0 171 [.string ⟨s.toArray⟩] As (.bool (namedP s)):=by
 refine Zab Tryz.func171 rfl Tryz.ntmps171 rfl ?_
 by_cases h0:1≤s.length∧s.length≤12
 ·have g1 : ¬ ((s.length:Int) < 1):=by omega
  have g2:¬ (12 < (s.length:Int)):=by omega
  repeat' first|refine Kz ?_|intro _
  refine Tri.loop (ι:=Nat) (fun i=>i≤s.length∧∀ c∈s.take i,nameC c=true) (fun i=>s.length - i) (fun i=>[(0,.string ⟨s.toArray⟩),(15,.int .i64 (s.length:Int)),(16,.int .i64 (i:Int))]) (fun _=>As) 0 ⟨Nat.zero_le _,fun c hc=>by simp at hc⟩ Zad Zaa ?_
  rintro i ⟨hi,hall⟩
  repeat' first|refine Kz ?_|intro _
  (refine Kx (fun hc=>?_) fun hc=>?_)
  ·obtain ⟨c,hc⟩:∃ c,s[i]?=some c:=⟨_,List.getElem?_eq_getElem (by omega)⟩
   by_cases hn:nameC c=true
   ·have hall':∀ x∈s.take (i+1),nameC x=true:=by
     rw [List.take_add_one,hc]
     intro x hx
     rcases List.mem_append.1 hx with hx|hx
     ·exact hall x hx
     ·simp only [Option.toList_some,List.mem_singleton] at hx
      rw [hx];exact hn
    rcases Z4m.1 hn with h|h|h|h|h
    ·have k1:(65:Int)≤(c.toNat:Int):=by omega
     have k2:(c.toNat:Int)≤90:=by omega
     repeat' first|refine Kz ?_|intro _
     exact Post.round (i+1) ⟨by omega,hall'⟩ (by omega) Zad Zaa
    ·have k1:(65:Int)≤(c.toNat:Int):=by omega
     have k2:¬ (c.toNat:Int)≤90:=by omega
     have k3:(97:Int)≤(c.toNat:Int):=by omega
     have k4:(c.toNat:Int)≤122:=by omega
     repeat' first|refine Kz ?_|intro _
     exact Post.round (i+1) ⟨by omega,hall'⟩ (by omega) Zad Zaa
    ·have k1:¬ (65:Int)≤(c.toNat:Int):=by omega
     have k3:¬ (97:Int)≤(c.toNat:Int):=by omega
     have k4:¬ (c.toNat:Int) < 48:=by omega
     have k5:¬ (57:Int) < (c.toNat:Int):=by omega
     repeat' first|refine Kz ?_|intro _
     exact Post.round (i+1) ⟨by omega,hall'⟩ (by omega) Zad Zaa
    ·have k1:¬ (65:Int)≤(c.toNat:Int):=by omega
     have k3:¬ (97:Int)≤(c.toNat:Int):=by omega
     have k4:(c.toNat:Int) < 48:=by omega
     have k5:(c.toNat:Int)=45:=by omega
     repeat' first|refine Kz ?_|intro _
     exact Post.round (i+1) ⟨by omega,hall'⟩ (by omega) Zad Zaa
    ·have k1:(65:Int)≤(c.toNat:Int):=by omega
     have k2:¬ (c.toNat:Int)≤90:=by omega
     have k3:¬ (97:Int)≤(c.toNat:Int):=by omega
     have k4:¬ (c.toNat:Int) < 48:=by omega
     have k5:(57:Int) < (c.toNat:Int):=by omega
     have k6:¬ (c.toNat:Int)=45:=by omega
     have k7:(c.toNat:Int)=95:=by omega
     repeat' first|refine Kz ?_|intro _
     exact Post.round (i+1) ⟨by omega,hall'⟩ (by omega) Zad Zaa
   ·have hf:namedP s=false:=by
     cases hq:namedP s with
     | false=>rfl
     | true=>exact absurd ((Z4l.1 hq).2 c (List.mem_of_getElem? hc)) hn
    have hn':¬ ((65≤c.toNat∧c.toNat≤90)∨(97≤c.toNat∧c.toNat≤122)∨(48≤c.toNat∧c.toNat≤57)∨c.toNat=45∨c.toNat=95):=fun h=>hn (Z4m.2 h)
    have k6:¬ (c.toNat:Int)=45:=by omega
    have k7:¬ (c.toNat:Int)=95:=by omega
    rw [hf]
    by_cases k1:(65:Int)≤(c.toNat:Int)
    ·have k2:¬ (c.toNat:Int)≤90:=by omega
     have k4:¬ (c.toNat:Int) < 48:=by omega
     have k5:(57:Int) < (c.toNat:Int):=by omega
     by_cases k3:(97:Int)≤(c.toNat:Int)
     ·have k8:¬ (c.toNat:Int)≤122:=by omega
      repeat' first|refine Kz ?_|intro _
      (refine Zac ?_)
      exact ⟨_,⟨rfl,rfl⟩,Ents.refl _⟩
     ·repeat' first|refine Kz ?_|intro _
      (refine Zac ?_)
      exact ⟨_,⟨rfl,rfl⟩,Ents.refl _⟩
    ·have k3:¬ (97:Int)≤(c.toNat:Int):=by omega
     by_cases k4:(c.toNat:Int) < 48
     ·repeat' first|refine Kz ?_|intro _
      (refine Zac ?_)
      exact ⟨_,⟨rfl,rfl⟩,Ents.refl _⟩
     ·have k5:(57:Int) < (c.toNat:Int):=by omega
      repeat' first|refine Kz ?_|intro _
      (refine Zac ?_)
      exact ⟨_,⟨rfl,rfl⟩,Ents.refl _⟩
  ·have ht:namedP s=true:=Z4l.2 ⟨h0,fun c hc=>hall c (by rw [List.take_of_length_le (by omega)];exact hc)⟩
   rw [ht]
   repeat' first|refine Kz ?_|intro _
   (refine Zac ?_)
   exact ⟨_,⟨rfl,rfl⟩,Ents.refl _⟩
 ·have hf:namedP s=false:=by
   cases hq:namedP s with
   | false=>rfl
   | true=>exact absurd (Z4l.1 hq).1 h0
  rw [hf]
  by_cases g1:(s.length:Int) < 1
  ·repeat' first|refine Kz ?_|intro _
   (refine Zac ?_)
   exact ⟨_,⟨rfl,rfl⟩,Ents.refl _⟩
  ·have g2:(12 < (s.length:Int)):=by omega
   repeat' first|refine Kz ?_|intro _
   (refine Zac ?_)
   exact ⟨_,⟨rfl,rfl⟩,Ents.refl _⟩
def limP (i:Nat):Int × Int:=if i=0 then (0,10000) else (-12800,12700)
theorem Zhb {i:Nat}:CQ Tryz.prog w0 172 [.int .i64 (i:Int)] As (.tuple #[.int .i64 (limP i).1,.int .i64 (limP i).2]):=by
 refine Zab Tryz.func172 rfl Tryz.ntmps172 rfl ?_
 unfold limP
 by_cases h:i=0
 ·have h':(i:Int)=0:=by omega
  rw [if_pos h]
  repeat' first|refine Kz ?_|intro _
  (refine Zac ?_)
  exact ⟨_,⟨rfl,rfl⟩,Ents.refl _⟩
 ·have h':¬ (i:Int)=0:=by omega
  rw [if_neg h]
  repeat' first|refine Kz ?_|intro _
  (refine Zac ?_)
  exact ⟨_,⟨rfl,rfl⟩,Ents.refl _⟩
def labV (l a b:Int) (i:Nat):Int:=if i=0 then l else if i=1 then a else b
theorem Z2m {l a b:Int} (h:∀ i,i < 3→(limP i).1≤labV l a b i∧labV l a b i≤(limP i).2):0≤l∧l≤10000∧-12800≤a∧a≤12700∧-12800≤b∧b≤12700 :=
 ⟨(h 0 (by decide)).1,(h 0 (by decide)).2,(h 1 (by decide)).1,(h 1 (by decide)).2,(h 2 (by decide)).1,(h 2 (by decide)).2⟩
theorem Z4p {l a b:Int} (h:0≤l∧l≤10000∧-12800≤a∧a≤12700∧-12800≤b∧b≤12700) {i:Nat} (hi:i < 3):(limP i).1≤labV l a b i∧labV l a b i≤(limP i).2:=by
 obtain rfl|rfl|rfl:i=0∨i=1∨i=2:=by omega
 ·exact ⟨h.1,h.2.1⟩
 ·exact ⟨h.2.2.1,h.2.2.2.1⟩
 ·exact ⟨h.2.2.2.2.1,h.2.2.2.2.2⟩
theorem Zy7 {nm:List UInt8} {p:Option Addr} {c:Nat} {dev:List Int} {l a b:Int} (hl:nm.length≤1000000000) [hr:RdIn As (.slice p dev.length c) Int (cI .i64) dev] :
  CQ Tryz.prog w0 94 [.agg #[.string ⟨nm.toArray⟩,.slice p dev.length c,.int .i64 l,.int .i64 a,.int .i64 b]] As (.bool (soundP (nm,dev,l,a,b))):=by
 refine Zab Tryz.func94 rfl Tryz.ntmps94 rfl ?_
 repeat' first|refine Kz ?_|intro _
 rename_i b1
 refine Kt rfl (Zrz hl) ?_
 cases hn:namedP nm with
 | false =>
  have hf:soundP (nm,dev,l,a,b)=false:=by unfold soundP;rw [hn];rfl
  rw [hf]
  repeat' first|refine Kz ?_|intro _
  exact Kv
 | true =>
  by_cases hd:1≤dev.length∧dev.length≤4
  ·have g1 : ¬ ((dev.length:Int) < 1):=by omega
   have g2:¬ (4 < (dev.length:Int)):=by omega
   repeat' first|refine Kz ?_|intro _
   refine Tri.midB (fun e' As'=>(∀ v∈dev,0≤v∧v≤10000)∧e'=[(1,.pointer (some ⟨b1,0,none⟩))]∧As'=.cl b1 [.string ⟨nm.toArray⟩,.slice p dev.length c,.int .i64 l,.int .i64 a,.int .i64 b] 65::As) ?_ ?_
   ·refine Tri.loop (ι:=Nat) (fun i=>i≤dev.length∧∀ v∈dev.take i,0≤v∧v≤10000) (fun i=>dev.length - i) (fun i=>[(1,.pointer (some ⟨b1,0,none⟩)),(26,.slice p dev.length c),(27,.int .i64 (dev.length:Int)),(28,.int .i64 (i:Int))])
     (fun _=>.cl b1 [.string ⟨nm.toArray⟩,.slice p dev.length c,.int .i64 l,.int .i64 a,.int .i64 b] 65::As) 0 ⟨Nat.zero_le _,fun v hv=>by simp at hv⟩ Zad Zaa ?_
    rintro i ⟨hi,hall⟩
    repeat' first|refine Kz ?_|intro _
    (refine Kx (fun hc=>?_) fun hc=>?_)
    ·obtain ⟨x,hx⟩:∃ x,dev[i]?=some x:=⟨_,List.getElem?_eq_getElem (by omega)⟩
     repeat' first|refine Kz ?_|intro _
     by_cases q:0≤x∧x≤10000
     ·have k1:¬ x < 0:=by omega
      have k2:¬ 10000 < x:=by omega
      repeat' first|refine Kz ?_|intro _
      refine Post.round (i+1) ⟨by omega,?_⟩ (by omega) Zad Zaa
      rw [List.take_add_one,hx]
      intro y hy
      rcases List.mem_append.1 hy with hy|hy
      ·exact hall y hy
      ·simp only [Option.toList_some,List.mem_singleton] at hy
       rw [hy];exact q
     ·have hf:soundP (nm,dev,l,a,b)=false:=by
       cases hq:soundP (nm,dev,l,a,b) with
       | false=>rfl
       | true=>exact absurd ((Z33.1 hq).2.2.1 x (List.mem_of_getElem? hx)) q
      rw [hf]
      by_cases k1:x < 0
      ·repeat' first|refine Kz ?_|intro _
       exact Kv
      ·have k2:10000 < x:=by omega
       repeat' first|refine Kz ?_|intro _
       exact Kv
    ·repeat' first|refine Kz ?_|intro _
     exact Post.cut _ _ ⟨fun v hv=>hall v (by rw [List.take_of_length_le (by omega)];exact hv),rfl,rfl⟩ Zad Zaa
   rintro _ _ ⟨hdv,rfl,rfl⟩
   repeat' first|refine Kz ?_|intro _
   refine Tri.loop (ι:=Nat) (fun j=>j≤3∧∀ i,i < j→(limP i).1≤labV l a b i∧labV l a b i≤(limP i).2) (fun j=>3 - j) (fun j=>[(40,.agg #[.int .i64 l,.int .i64 a,.int .i64 b]),(41,.int .i64 (j:Int))])
    (fun _=>.cl b1 [.string ⟨nm.toArray⟩,.slice p dev.length c,.int .i64 l,.int .i64 a,.int .i64 b] 65::As) 0 ⟨by decide,fun i hi=>absurd hi (Nat.not_lt_zero i)⟩ Zad Zaa ?_
   rintro j ⟨hj,hall⟩
   repeat' first|refine Kz ?_|intro _
   (refine Kx (fun hc=>?_) fun hc=>?_)
   ·iterate 4 refine Stp.h ?_
    refine Tri.cut (fun e' As'=>e'=[(5,.int .i64 (j:Int)),(6,.int .i64 (labV l a b j)),(40,.agg #[.int .i64 l,.int .i64 a,.int .i64 b]),(41,.int .i64 (j:Int))]∧As'=.cl b1 [.string ⟨nm.toArray⟩,.slice p dev.length c,.int .i64 l,.int .i64 a,.int .i64 b] 65::As) ?_ ?_
    ·obtain rfl|rfl|rfl:j=0∨j=1∨j=2:=by omega
     ·repeat' first|refine Kz ?_|intro _
      exact Post.cut _ _ ⟨rfl,rfl⟩ (by show Go.Sx.Sub _ [(5,.int .i64 0),(6,.int .i64 l),(40,.agg #[.int .i64 l,.int .i64 a,.int .i64 b]),(41,.int .i64 0)];(exact Zad)) Zaa
     ·repeat' first|refine Kz ?_|intro _
      exact Post.cut _ _ ⟨rfl,rfl⟩ (by show Go.Sx.Sub _ [(5,.int .i64 1),(6,.int .i64 a),(40,.agg #[.int .i64 l,.int .i64 a,.int .i64 b]),(41,.int .i64 1)];(exact Zad)) Zaa
     ·repeat' first|refine Kz ?_|intro _
      exact Post.cut _ _ ⟨rfl,rfl⟩ (by show Go.Sx.Sub _ [(5,.int .i64 2),(6,.int .i64 b),(40,.agg #[.int .i64 l,.int .i64 a,.int .i64 b]),(41,.int .i64 2)];(exact Zad)) Zaa
    rintro _ _ ⟨rfl,rfl⟩
    repeat' first|refine Kz ?_|intro _
    refine Kt rfl Zhb ?_
    have hcon:soundP (nm,dev,l,a,b)=true→(limP j).1≤labV l a b j∧labV l a b j≤(limP j).2:=fun hq=>Z4p (Z33.1 hq).2.2.2 (by omega)
    have hnew:(limP j).1≤labV l a b j∧labV l a b j≤(limP j).2→∀ i,i < j+1→(limP i).1≤labV l a b i∧labV l a b i≤(limP i).2:=fun h i hi=>by
     by_cases e:i=j
     ·rw [e];exact h
     ·exact hall i (by omega)
    generalize limP j=L at hcon hnew ⊢
    generalize labV l a b j=x at hcon hnew ⊢
    obtain ⟨lo,hi⟩:=L
    simp only at hcon hnew ⊢
    repeat' first|refine Kz ?_|intro _
    by_cases q:lo≤x∧x≤hi
    ·have k1:¬ x < lo:=by omega
     have k2:¬ hi < x:=by omega
     repeat' first|refine Kz ?_|intro _
     exact Post.round (j+1) ⟨by omega,hnew q⟩ (by omega) Zad Zaa
    ·have hf:soundP (nm,dev,l,a,b)=false:=by
      cases hq:soundP (nm,dev,l,a,b) with
      | false=>rfl
      | true=>exact absurd (hcon hq) q
     rw [hf]
     clear hcon hnew
     by_cases k1:x < lo
     ·repeat' first|refine Kz ?_|intro _
      exact Kv
     ·have k2:hi < x:=by omega
      repeat' first|refine Kz ?_|intro _
      exact Kv
   ·have ht:soundP (nm,dev,l,a,b)=true:=Z33.2 ⟨hn,hd,hdv,Z2m fun i hi=>hall i (by omega)⟩
    rw [ht]
    repeat' first|refine Kz ?_|intro _
    exact Kv
  ·have hf:soundP (nm,dev,l,a,b)=false:=by
    cases hq:soundP (nm,dev,l,a,b) with
    | false=>rfl
    | true=>exact absurd (Z33.1 hq).2.1 hd
   rw [hf]
   by_cases g1:(dev.length:Int) < 1
   ·repeat' first|refine Kz ?_|intro _
    exact Kv
   ·have g2:(4 < (dev.length:Int)):=by omega
    repeat' first|refine Kz ?_|intro _
    exact Kv
end Go.Proofs.YtciadfpomkdlnaaGreatDoor.Q
namespace Go.Sx
open Go
def cStr (s:List UInt8):Value:=.string ⟨s.toArray⟩
def cBo (b:Bool):Value:=.bool b
instance encStr {s:List UInt8}:EncV cStr (.string ⟨s.toArray⟩) s:=⟨rfl⟩
instance encBo {b:Bool}:EncV cBo (.bool b) b:=⟨rfl⟩
section
variable {P:Program}
theorem Zu6 (a b:List UInt8):((⟨a.toArray⟩:ByteArray) == ⟨b.toArray⟩)=decide (a=b):=by
 show (a.toArray == b.toArray)=_
 rw [Bool.eq_iff_iff,beq_iff_eq,decide_eq_true_eq]
 exact ⟨List.toArray_inj,fun h=>by rw [h]⟩
instance keyStr {t:TypeId} [UL P t .string]:KeyT P t (List UInt8) cStr where
 check em k w:=by
  show (Instr.checkKey em (9999+1) t (.string ⟨k.toArray⟩)).run P w=.ok () w
  unfold Instr.checkKey
  simp [Zam]
 same k:=by
  show ((⟨k.toArray⟩:ByteArray) == ⟨k.toArray⟩)=true
  rw [Zu6];simp
 find:=⟨_,UL.h (P:=P) (t:=t),.inl fun a b=>by
  show some ((⟨a.toArray⟩:ByteArray) == ⟨b.toArray⟩)=_
  rw [Zu6]⟩
end
end Go.Sx
namespace Go.Proofs.YtciadfpomkdlnaaGreatDoor.Q
open Go Go.Sx
variable {w0:World} {As:List Ent}
def DevIn (As:List Ent) (L:List RawP):Prop:=∀ r∈L,RdIn As (.slice r.p r.dev.length r.c) Int (cI .i64) r.dev
theorem DevIn.tl {L:List RawP} {x:Ent} (h:DevIn As L):DevIn (x::As) L:=fun r hr=>RdIn.tl (h:=h r hr)
def Shr (L:List RawP):Prop:=L.length≤1000000000∧∀ r∈L,r.nm.length≤1000000000
set_option maxRecDepth 100000 in
set_option maxHeartbeats 4000000 in
theorem Zc6 {v:Value} {L:List RawP} [hr:RdIn As v RawP cPt L] (hd:DevIn As L) (hs:Shr L) :
  CQ Tryz.prog w0 26 [v] As (.int .i64 (if checkP (L.map ppOf) then 0 else 310)):=by
 refine Zae v fun pv cv ev=>?_
 subst ev
 refine Zab Tryz.func26 rfl Tryz.ntmps26 rfl ?_
 have hll:=hs.1
 by_cases h0:1≤L.length∧L.length≤40
 ·have g1:¬ ((L.length:Int) < 1):=by omega
  have g2:¬ (40 < (L.length:Int)):=by omega
  obtain ⟨r0,hr0⟩:∃ r,L[0]?=some r:=⟨_,List.getElem?_eq_getElem (by omega)⟩
  have hhd:(L.map ppOf).headD ([],[],0,0,0)=ppOf r0:=by
   cases L with
   | nil=>cases hr0
   | cons a b=>cases hr0;rfl
  have hchk:checkP (L.map ppOf)=true↔Vld r0.dev.length (L.map ppOf):=by
   rw [Zxb,hhd]
   exact ⟨fun h=>h.2.2,fun h=>⟨fun e=>by have:=congrArg List.length e;simp only [List.length_map,List.length_nil] at this;omega,by rw [List.length_map];omega,h⟩⟩
  repeat' first|refine Kz ?_|intro _
  refine TL.rb rfl rfl (ExR.makeMap cStr cBo) ?_
  intro bm
  repeat' first|refine Kz ?_|intro _
  refine Tri.loop (ι:=Nat × List (List UInt8 × Bool)) (fun x=>(x.1≤L.length∧Vld r0.dev.length ((L.take x.1).map ppOf))∧∀ s,mGet x.2 s=if s∈(L.take x.1).map (·.nm) then some true else none) (fun x=>L.length - x.1)
   (fun x=>[(0,.slice pv L.length cv),(3,.map (some bm)),(15,.slice pv L.length cv),(16,.int .i64 (L.length:Int)),(17,.int .i64 (x.1:Int))]) (fun x=>.ob bm (mapO cStr cBo x.2)::As) (0,[]) ⟨⟨Nat.zero_le _,⟨fun p h=>(by simp at h),by simp⟩⟩,fun s=>by simp [mGet]⟩ Zad Zaa ?_
  rintro ⟨i,M⟩ ⟨⟨hi,hv⟩,hM⟩
  simp only at hi hv hM
  repeat' first|refine Kz ?_|intro _
  (refine Kx (fun hc=>?_) fun hc=>?_)
  ·obtain ⟨r,hri⟩:∃ r,L[i]?=some r:=⟨_,List.getElem?_eq_getElem (by omega)⟩
   have hmem:=List.mem_of_getElem? hri
   have hnl:=hs.2 r hmem
   haveI hrd:=hd r hmem
   haveI hrd0:=hd r0 (List.mem_of_getElem? hr0)
   obtain ⟨nm,p,c,dev,l,a,b⟩:=r
   simp only at hnl
   have htk:L.take (i+1)=L.take i++[⟨nm,p,c,dev,l,a,b⟩]:=by rw [List.take_add_one,hri];rfl
   have hbad:¬ Vld r0.dev.length ((L.take (i+1)).map ppOf)→checkP (L.map ppOf)=false:=fun h=>by
    cases hq:checkP (L.map ppOf) with
    | false=>rfl
    | true =>
     have:=(hchk.1 hq).pre (i+1)
     rw [← List.map_take] at this
     exact absurd this h
   have hin:ppOf ⟨nm,p,c,dev,l,a,b⟩∈(L.take (i+1)).map ppOf:=by rw [htk,List.map_append];exact List.mem_append_right _ (List.mem_cons_self ..)
   repeat' first|refine Kz ?_|intro _
   show Tri _ _ _ _ ((5,_)::(20,.agg #[.string ⟨nm.toArray⟩,.slice p dev.length c,.int .i64 l,.int .i64 a,.int .i64 b])::_) (.cl _ [.string ⟨nm.toArray⟩,.slice p dev.length c,.int .i64 l,.int .i64 a,.int .i64 b] _::_) _
   rename_i b5
   refine Zdz (.cl b5 [.string ⟨nm.toArray⟩,.slice p dev.length c,.int .i64 l,.int .i64 a,.int .i64 b] 65::As) [(18,.o bm)] (.take 0 (.all [(1,.take 2 (.take 3 (.take 4 (.take 5 (.take 6 (.take 7 (.take 8 (.take 9 (.take 10 (.take 11 (.take 12 (.take 13 (.take 14 (.take 15 (.take 16 (.take 17 (.take 18 (.take 19 (.done)))))))))))))))))))])) ?_
   repeat' first|refine Kf ?_|intro _|constructor
   refine Kw rfl (Zy7 hnl) ?_
   cases hsn:soundP (nm,dev,l,a,b) with
   | false =>
    rw [hbad fun h=>by have:=(h.sound _ hin).1;rw [show ppOf ⟨nm,p,c,dev,l,a,b⟩=(nm,dev,l,a,b) from rfl,hsn] at this;cases this]
    repeat' first|refine Kf ?_|intro _|constructor
    exact Kv
   | true =>
    repeat' first|refine Kf ?_|intro _|constructor
    by_cases hdl:(dev.length:Int)=(r0.dev.length:Int)
    ·have hdn:dev.length=r0.dev.length:=by omega
     rw [decide_eq_true hdl]
     have hMn:=hM nm
     by_cases hin2:nm∈(L.take i).map (·.nm)
     ·rw [if_pos hin2] at hMn
      have hbd:¬ Vld r0.dev.length ((L.take (i+1)).map ppOf):=fun h=>by
       have h1:=h.nodup
       rw [htk,List.map_append,List.map_append,List.nodup_append] at h1
       refine h1.2.2 nm ?_ nm (List.mem_cons_self ..) rfl
       rw [List.map_map]
       exact hin2
      rw [hbad hbd]
      refine Z4y (hs:=Zsj) ?_
      repeat' first|refine Kf ?_|intro _|constructor
      exact Kv
     ·rw [if_neg hin2] at hMn
      repeat' first|refine Kf ?_|intro _|constructor
      simp only [hMn]
      show Tri _ _ _ _ ((40,.bool false)::_) _ _
      repeat' first|refine Kz ?_|intro _
      refine Post.round (i+1,mSet M nm true) ⟨⟨by simp only;omega,?_⟩,?_⟩ (by simp only;omega) Zad Zaa
      ·simp only
       rw [htk,List.map_append]
       refine hv.app hsn (by exact hdn) ?_
       rw [List.map_map]
       exact hin2
      ·intro s
       simp only
       rw [Zi7,hM s,htk,List.map_append]
       simp only [List.map_cons,List.map_nil,List.mem_append,List.mem_singleton]
       by_cases hs1:nm=s
       ·rw [if_pos hs1,if_pos (.inr hs1.symm)]
       ·rw [if_neg hs1]
        by_cases hs2:s∈(L.take i).map (·.nm)
        ·rw [if_pos hs2,if_pos (.inl hs2)]
        ·rw [if_neg hs2,if_neg (by rintro (h|h);exact hs2 h;exact hs1 h.symm)]
    ·rw [hbad fun h=>hdl (by have:=(h.sound _ hin).2;rw [show (ppOf ⟨nm,p,c,dev,l,a,b⟩).2.1=dev from rfl] at this;omega),decide_eq_false hdl]
     refine Z4y (hs:=TTo.os) ?_
     repeat' first|refine Kf ?_|intro _|constructor
     exact Kv
  ·have hvv:Vld r0.dev.length (L.map ppOf):=by rw [List.take_of_length_le (by omega)] at hv;exact hv
   rw [hchk.2 hvv]
   repeat' first|refine Kz ?_|intro _
   exact Kv
 ·have hf:checkP (L.map ppOf)=false:=by
   cases hq:checkP (L.map ppOf) with
   | false=>rfl
   | true =>
    obtain ⟨q1,q2,_⟩:=Zxb.1 hq
    rw [List.length_map] at q2
    exact absurd ⟨by rcases Nat.eq_zero_or_pos L.length with h|h;exact absurd (by rw [List.length_eq_zero_iff.1 h];rfl) q1;exact h,q2⟩ h0
  rw [hf]
  by_cases g1:(L.length:Int) < 1
  ·repeat' first|refine Kz ?_|intro _
   exact Kv
  ·have g2:(40 < (L.length:Int)):=by omega
   repeat' first|refine Kz ?_|intro _
   exact Kv
end Go.Proofs.YtciadfpomkdlnaaGreatDoor.Q
namespace Go.Sx
open Go
theorem Zha {α:Type} {a b:List α} {i:Nat} (h:a.take i=b.take i) (h1:a.length=b.length) (h2:a.length≤i):a=b:=by
 rwa [List.take_of_length_le h2,List.take_of_length_le (by omega)] at h
theorem Zid {α:Type} {a b:List α} {i:Nat} {x y:α} (h:a.take i=b.take i) (ha:a[i]?=some x) (hb:b[i]?=some y) (hxy:x=y):a.take (i+1)=b.take (i+1):=by
 rw [List.take_add_one,List.take_add_one,h,ha,hb,hxy]
end Go.Sx
namespace Go.Proofs.YtciadfpomkdlnaaGreatDoor.Q
open Go Go.Sx
variable {w0:World} {As:List Ent}
theorem Zwv {v u:Value} {a b:List Int} [ha:RdIn As v Int (cI .i64) a] [hb:RdIn As u Int (cI .i64) b] (hla:a.length≤1000000000) (_hlb:b.length≤1000000000) :
  CQ Tryz.prog w0 27 [v,u] As (.bool (decide (a=b))):=by
 refine Zae v fun p1 c1 e1=>Zae u fun p2 c2 e2=>?_
 subst e1 e2
 refine Zab Tryz.func27 rfl Tryz.ntmps27 rfl ?_
 by_cases hl:(a.length:Int)=(b.length:Int)
 ·have hl':a.length=b.length:=by omega
  repeat' first|refine Kz ?_|intro _
  refine Tri.loop (ι:=Nat) (fun i=>i≤a.length∧a.take i=b.take i) (fun i=>a.length - i) (fun i=>[(0,.slice p1 a.length c1),(1,.slice p2 b.length c2),(12,.int .i64 (a.length:Int)),(13,.int .i64 (i:Int))]) (fun _=>As) 0 ⟨Nat.zero_le _,rfl⟩ Zad Zaa ?_
  rintro i ⟨hi,hall⟩
  repeat' first|refine Kz ?_|intro _
  (refine Kx (fun hc=>?_) fun hc=>?_)
  ·obtain ⟨x,hx⟩:∃ x,a[i]?=some x:=⟨_,List.getElem?_eq_getElem (by omega)⟩
   obtain ⟨y,hy⟩:∃ x,b[i]?=some x:=⟨_,List.getElem?_eq_getElem (by omega)⟩
   repeat' first|refine Kz ?_|intro _
   refine Zao (.take 0 (.take 1 (.take 2 (.take 3 (.take 4 (.take 5 (.take 6 (.take 7 (.take 8 (.done)))))))))) ?_
   repeat' first|refine Kf ?_|intro _|constructor
   by_cases hxy:x=y
   ·repeat' first|refine Kf ?_|intro _|constructor
    exact Post.round (i+1) ⟨by omega,Zid hall hx hy hxy⟩ (by omega) Zad Zaa
   ·have hne:¬ a=b:=fun h=>hxy (by rw [h,hy] at hx;exact (Option.some.inj hx).symm)
    repeat' first|refine Kf ?_|intro _|constructor
    (refine Zac ?_)
    exact ⟨_,⟨by rw [decide_eq_false hne],rfl⟩,Ents.refl _⟩
  ·repeat' first|refine Kz ?_|intro _
   (refine Zac ?_)
   exact ⟨_,⟨by rw [decide_eq_true (Zha hall hl' (by omega))],rfl⟩,Ents.refl _⟩
 ·have hne:¬ a=b:=fun h=>hl (by rw [h])
  repeat' first|refine Kz ?_|intro _
  (refine Zac ?_)
  exact ⟨_,⟨by rw [decide_eq_false hne],rfl⟩,Ents.refl _⟩
instance ngP:NG Tryz.prog 63:=⟨by kernel_rfl⟩
theorem Zu9 {n1 n2:List UInt8} {p1 p2:Option Addr} {c1 c2:Nat} {d1 d2:List Int} {l1 a1 b1 l2 a2 b2:Int} [ha:RdIn As (.slice p1 d1.length c1) Int (cI .i64) d1] [hb:RdIn As (.slice p2 d2.length c2) Int (cI .i64) d2] (hla:d1.length≤1000000000) (hlb:d2.length≤1000000000) :
  CallsS Tryz.prog w0 93 [.agg #[.string ⟨n1.toArray⟩,.slice p1 d1.length c1,.int .i64 l1,.int .i64 a1,.int .i64 b1],.agg #[.string ⟨n2.toArray⟩,.slice p2 d2.length c2,.int .i64 l2,.int .i64 a2,.int .i64 b2]] As
   fun x Bs=>x=.bool (decide (((n1,d1,l1,a1,b1):PP)=(n2,d2,l2,a2,b2)))∧Bs=As:=by
 refine Zab Tryz.func93 rfl Tryz.ntmps93 rfl ?_
 by_cases h1:n1=n2
 ·by_cases h2:(⟨l1,a1,b1⟩:V3)=⟨l2,a2,b2⟩
  ·repeat' first|refine Kz ?_|intro _
   refine Kt rfl (Zwv (a:=d1) (b:=d2) hla hlb) ?_
   repeat' first|refine Kz ?_|intro _
   (refine Zac ?_)
   refine ⟨_,⟨?_,rfl⟩,Zaa⟩
   cases h2
   subst h1
   congr 1
   rw [Bool.eq_iff_iff,decide_eq_true_eq,decide_eq_true_eq]
   exact ⟨fun h=>by rw [h],fun h=>congrArg (·.2.1) h⟩
  ·have hne:¬ ((n1,d1,l1,a1,b1):PP)=(n2,d2,l2,a2,b2):=fun h=>h2 (by cases h;rfl)
   repeat' first|refine Kz ?_|intro _
   (refine Zac ?_)
   exact ⟨_,⟨by rw [decide_eq_false hne],rfl⟩,Zaa⟩
 ·have hne:¬ ((n1,d1,l1,a1,b1):PP)=(n2,d2,l2,a2,b2):=fun h=>h1 (congrArg (·.1) h)
  repeat' first|refine Kz ?_|intro _
  (refine Zac ?_)
  exact ⟨_,⟨by rw [decide_eq_false hne],rfl⟩,Zaa⟩
def Fwd (L:List RawP):Prop:=L.length≤1000000000∧∀ r∈L,r.dev.length≤1000000000
theorem Zhx {L:List RawP} {i:Nat} {r:RawP} (h:L[i]?=some r):(L.map ppOf)[i]?=some (ppOf r):=by rw [List.getElem?_map,h];rfl
theorem Zww {v u:Value} {A B:List RawP} [ha:RdIn As v RawP cPt A] [hb:RdIn As u RawP cPt B] (da:DevIn As A) (db:DevIn As B) (fa:Fwd A) (fb:Fwd B) :
  CQ Tryz.prog w0 92 [v,u,.func (.func 93) #[] #[]] As (.bool (decide (A.map ppOf=B.map ppOf))):=by
 refine Zae v fun p1 c1 e1=>Zae u fun p2 c2 e2=>?_
 subst e1 e2
 have fal:=fa.1
 have fbl:=fb.1
 refine Zab Tryz.func92 rfl Tryz.ntmps92 rfl ?_
 by_cases hl:(A.length:Int)=(B.length:Int)
 ·have hl':(A.map ppOf).length=(B.map ppOf).length:=by rw [List.length_map,List.length_map];omega
  repeat' first|refine Kz ?_|intro _
  refine Tri.loop (ι:=Nat) (fun i=>i≤A.length∧(A.map ppOf).take i=(B.map ppOf).take i) (fun i=>A.length - i) (fun i=>[(1,.slice p2 B.length c2),(2,.func (.func 93) #[] #[]),(15,.slice p1 A.length c1),(16,.int .i64 (A.length:Int)),(17,.int .i64 (i:Int))]) (fun _=>As) 0 ⟨Nat.zero_le _,rfl⟩ Zad Zaa ?_
  rintro i ⟨hi,hall⟩
  repeat' first|refine Kz ?_|intro _
  (refine Kx (fun hc=>?_) fun hc=>?_)
  ·obtain ⟨x,hx⟩:∃ x,A[i]?=some x:=⟨_,List.getElem?_eq_getElem (by omega)⟩
   obtain ⟨y,hy⟩:∃ x,B[i]?=some x:=⟨_,List.getElem?_eq_getElem (by omega)⟩
   have hpx:=Zhx hx
   have hpy:=Zhx hy
   have lx:=fa.2 x (List.mem_of_getElem? hx)
   have ly:=fb.2 y (List.mem_of_getElem? hy)
   haveI ix:=da x (List.mem_of_getElem? hx)
   haveI iy:=db y (List.mem_of_getElem? hy)
   obtain ⟨n1,q1,k1,d1,l1,a1,b1⟩:=x
   obtain ⟨n2,q2,k2,d2,l2,a2,b2⟩:=y
   simp only at lx ly ix iy
   repeat' first|refine Kz ?_|intro _
   refine Ks rfl (Zu9 (n1:=n1) (n2:=n2) (p1:=q1) (p2:=q2) (c1:=k1) (c2:=k2) (d1:=d1) (d2:=d2) (l1:=l1) (a1:=a1) (b1:=b1) (l2:=l2) (a2:=a2) (b2:=b2) lx ly) ?_
   by_cases hxy:((n1,d1,l1,a1,b1):PP)=(n2,d2,l2,a2,b2)
   ·rw [decide_eq_true hxy]
    repeat' first|refine Kz ?_|intro _
    exact Post.round (i+1) ⟨by omega,Zid hall hpx hpy hxy⟩ (by omega) Zad Zaa
   ·have hne:¬ A.map ppOf=B.map ppOf:=fun h=>hxy (by rw [h,hpy] at hpx;exact (Option.some.inj hpx).symm)
    rw [decide_eq_false hxy]
    repeat' first|refine Kz ?_|intro _
    (refine Zac ?_)
    exact ⟨_,⟨by rw [decide_eq_false hne],rfl⟩,Zaa⟩
  ·repeat' first|refine Kz ?_|intro _
   (refine Zac ?_)
   exact ⟨_,⟨by rw [decide_eq_true (Zha hall hl' (by rw [List.length_map];omega))],rfl⟩,Ents.refl _⟩
 ·have hne:¬ A.map ppOf=B.map ppOf:=fun h=>hl (by have:=congrArg List.length h;rw [List.length_map,List.length_map] at this;omega)
  repeat' first|refine Kz ?_|intro _
  (refine Zac ?_)
  exact ⟨_,⟨by rw [decide_eq_false hne],rfl⟩,Ents.refl _⟩
theorem Zix {v u:Value} {A B:List RawP} [ha:RdIn As v RawP cPt A] [hb:RdIn As u RawP cPt B] (da:DevIn As A) (db:DevIn As B) (fa:Fwd A) (fb:Fwd B) :
  CQ Tryz.prog w0 25 [v,u] As (.bool (decide (A.map ppOf=B.map ppOf))):=by
 refine Zab Tryz.func25 rfl Tryz.ntmps25 rfl ?_
 repeat' first|refine Kz ?_|intro _
 refine Ks rfl (Zww da db fa fb) ?_
 repeat' first|refine Kz ?_|intro _
 exact Kv
def chanP (l:List PP):Int × Int:=if checkP l then (((l.headD ([],[],0,0,0)).2.1.length:Int),0) else (0,310)
theorem Zkd {v:Value} {L:List RawP} [hr:RdIn As v RawP cPt L] (hd:DevIn As L) (hs:Shr L) :
  CQ Tryz.prog w0 34 [v] As (.tuple #[.int .i64 (chanP (L.map ppOf)).1,.int .i64 (chanP (L.map ppOf)).2]):=by
 refine Zae v fun pv cv ev=>?_
 subst ev
 refine Zab Tryz.func34 rfl Tryz.ntmps34 rfl ?_
 repeat' first|refine Kz ?_|intro _
 refine Ks rfl (Zc6 hd hs) ?_
 unfold chanP
 cases hc:checkP (L.map ppOf) with
 | false =>
  repeat' first|refine Kz ?_|intro _
  exact Kv
 | true =>
  cases L with
  | nil=>cases hc
  | cons r L =>
   have h0:(r::L)[0]?=some r:=rfl
   obtain ⟨n1,q1,k1,d1,l1,a1,b1⟩:=r
   repeat' first|refine Kz ?_|intro _
   exact Kv
theorem Zyw {s:List UInt8} (hl:s.length≤4000000000):CallsS Tryz.prog w0 175 [.string ⟨s.toArray⟩,.string ⟨#[48]⟩] As fun u Bs=>u=.string ⟨(Lib.trimRightB s 48).toArray⟩∧Bs=As :=
 CallsS.mk fun w hs=>(Tryz.strings_TrimRight_one ⟨s.toArray⟩ 48 (by decide) w (by show s.toArray.size≤_;simp;omega)).mono fun en w' ⟨h1,h2⟩=>⟨_,As,h1,⟨rfl,rfl⟩,by rw [h2];exact hs⟩
theorem Zl4 (ht:Tab w0) {n:Int} {p:Nat} (hn:-1000000000≤n∧n≤1000000000) (hp:p≤20):CQ Tryz.prog w0 97 [.int .i64 n,.int .i64 (p:Int)] As (.string ⟨(decT n p).toArray⟩):=by
 refine Zab Tryz.func97 rfl Tryz.ntmps97 rfl ?_
 obtain ⟨sg,hsg⟩:∃ sg:List UInt8,sg=if n < 0 then [45] else []:=⟨_,rfl⟩
 obtain ⟨m,hm⟩:∃ m:Nat,m=n.natAbs:=⟨_,rfl⟩
 have hdec:decT n p=sg++decU (padS (Lib.decDigits m) p) p:=by rw [hsg,hm];rfl
 rw [hdec]
 repeat' first|refine Kz ?_|intro _
 refine Tri.mid (fun e' As'=>e'=[(0,.int .i64 (m:Int)),(1,.int .i64 (p:Int)),(5,.string ⟨sg.toArray⟩)]∧As'=As) ?_ ?_
 ·by_cases h0:n < 0
  ·have hm':(m:Int)=-n:=by omega
   rw [hsg,if_pos h0,hm']
   repeat' first|refine Kz ?_|intro _
   exact Post.cut _ _ ⟨rfl,rfl⟩ Zad Zaa
  ·have hm':(m:Int)=n:=by omega
   rw [hsg,if_neg h0,hm']
   repeat' first|refine Kz ?_|intro _
   exact Post.cut _ _ ⟨rfl,rfl⟩ Zad Zaa
 rintro _ _ ⟨rfl,rfl⟩
 repeat' first|refine Kz ?_|intro _
 refine TL.call rfl rfl rfl (Zgk ht (n:=(m:Int)) (by omega) (by omega)) ?_
 rintro _ As ⟨rfl,rfl⟩
 rw [Lib.itoa_nonneg]
 have hd1:1≤(Lib.decDigits m).length:=by rw [Zaw];exact Zba m
 have hd2:(Lib.decDigits m).length≤20:=by rw [Zaw];exact Zbg (by decide) (Nat.lt_of_lt_of_le (show m < 1000000001 by omega) (by decide))
 generalize Lib.decDigits m=d at hd1 hd2 ⊢
 repeat' first|refine Kz ?_|intro _
 refine Tri.midB (fun e' As'=>e'=[(1,.int .i64 (p:Int)),(5,.string ⟨sg.toArray⟩),(6,.string ⟨(padS d p).toArray⟩)]∧As'=As) ?_ ?_
 ·refine Tri.loop (ι:=Nat) (fun j=>j≤p+1 - d.length) (fun j=>p+1 - d.length - j) (fun j=>[(1,.int .i64 (p:Int)),(5,.string ⟨sg.toArray⟩),(6,.string ⟨(List.replicate j (48:UInt8)++d).toArray⟩)]) (fun _=>As) 0 (Nat.zero_le _) (by show Go.Sx.Sub _ [(1,.int .i64 (p:Int)),(5,.string ⟨sg.toArray⟩),(6,.string ⟨d.toArray⟩)];(exact Zad)) Zaa ?_
  intro j hj
  have hjl:(List.replicate j (48:UInt8)++d).length=j+d.length:=by rw [List.length_append,List.length_replicate]
  by_cases hc:((List.replicate j (48:UInt8)++d).length:Int)≤(p:Int)
  ·repeat' first|refine Kz ?_|intro _
   refine Post.round (j+1) (by omega) (by omega) ?_ Zaa
   rw [List.replicate_succ]
   (exact Zad)
  ·have e:padS d p=List.replicate j (48:UInt8)++d:=by unfold padS;rw [show p+1 - d.length=j by omega]
   rw [e]
   repeat' first|refine Kz ?_|intro _
   exact Post.cut _ _ ⟨rfl,rfl⟩ Zad Zaa
 rintro _ _ ⟨rfl,rfl⟩
 have hpl:p+1≤(padS d p).length∧(padS d p).length≤100:=by unfold padS;rw [List.length_append,List.length_replicate];omega
 generalize padS d p=u at hpl ⊢
 obtain ⟨k,hk⟩:∃ k:Nat,k=u.length - p:=⟨_,rfl⟩
 have hk':(u.length:Int) - (p:Int)=(k:Int):=by omega
 unfold decU
 rw [← hk]
 repeat' first|refine Kz ?_|intro _
 rw [hk']
 refine TL.f rfl rfl (Zkv (lo:=k) rfl (Zdx rfl) (by omega)) ?_
 repeat' first|refine Kz ?_|intro _
 refine TL.call rfl rfl rfl (Zyw (by rw [List.length_drop];omega)) ?_
 rintro _ As ⟨rfl,rfl⟩
 have hrl:(Lib.trimRightB (u.drop k) 48).length≤200:=by
  have:=(Zgs (l:=u.drop k) (c:=48)).2
  rw [List.length_drop] at this
  omega
 generalize Lib.trimRightB (u.drop k) 48=r at hrl ⊢
 have hsl:sg.length≤1:=by rw [hsg];split<;>decide
 have hul:(u.take k).length≤100:=by rw [List.length_take];omega
 by_cases hr:r=[]
 ·rw [if_pos hr]
  repeat' first|refine Kz ?_|intro _
  exact Kv
 ·rw [if_neg hr]
  repeat' first|refine Kz ?_|intro _
  (refine Zac ?_)
  exact ⟨_,⟨by simp only [List.drop_zero,Nat.sub_zero,List.append_assoc],rfl⟩,Zaa⟩
end Go.Proofs.YtciadfpomkdlnaaGreatDoor.Q
namespace Go.Proofs.YtciadfpomkdlnaaGreatDoor.Q
open Go Go.Sx
variable {w0:World} {As:List Ent}
def textO31 (l:List PP):List UInt8 × Int:=if checkP l then (textT l,0) else ([],310)
def devT (d:List Int):List UInt8:=d.flatMap fun v=>32::decT v 4
def labT (l a b:Int) (j:Nat):List UInt8:=([l,a,b].take j).flatMap fun v=>32::decT v 2
theorem Zpx {p:PP}:rowT p=p.1++devT p.2.1++labT p.2.2.1 p.2.2.2.1 p.2.2.2.2 3++[10]:=by
 unfold rowT wordsT joinW devT labT
 simp [List.flatMap_append,List.flatMap_map]
theorem Zbt {n:Int} {p:Nat} (hn:-1000000000≤n∧n≤1000000000) (hp:p≤20):(decT n p).length≤40:=by
 have h1:(Lib.decDigits n.natAbs).length≤10:=by rw [Zaw];exact Zbg (by decide) (Nat.lt_of_le_of_lt (show n.natAbs≤1000000000 by omega) (by decide))
 unfold decT decU
 have h2:(padS (Lib.decDigits n.natAbs) p).length≤31:=by unfold padS;rw [List.length_append,List.length_replicate];omega
 generalize padS (Lib.decDigits n.natAbs) p=u at h2 ⊢
 have h3:=(Zgs (l:=u.drop (u.length - p)) (c:=48)).2
 rw [List.length_drop] at h3
 rw [List.length_append]
 split<;>split<;>simp only [List.length_append,List.length_take,List.length_cons,List.length_nil]<;>omega
theorem Zjc:∀ {d:List Int},(∀ v∈d,0≤v∧v≤10000)→(devT d).length≤41 * d.length
 | [],_=>by simp [devT]
 | v::r,h=>by
  have h1:=h v (List.mem_cons_self ..)
  have h2:=Zbt (n:=v) (p:=4) (by omega) (by decide)
  have h3:=Zjc (d:=r) fun x hx=>h x (List.mem_cons_of_mem _ hx)
  have e:devT (v::r)=(32::decT v 4)++devT r:=by unfold devT;rw [List.flatMap_cons]
  rw [e,List.length_append,List.length_cons,List.length_cons]
  omega
theorem Zw3 {d:List Int} {i:Nat} {v:Int} (h:d[i]?=some v):devT (d.take (i+1))=devT (d.take i)++32::decT v 4:=by
 unfold devT
 rw [List.take_add_one,h,List.flatMap_append]
 simp
theorem Zvg {l:List PP} {i:Nat} {p:PP} (h:l[i]?=some p):(l.take (i+1)).flatMap rowT=(l.take i).flatMap rowT++rowT p:=by
 rw [List.take_add_one,h,List.flatMap_append]
 simp
theorem Zvi {p:PP} (h:soundP p=true):(rowT p).length≤300:=by
 obtain ⟨h1,h2,h3,h4⟩:=Z33.1 h
 have h5:=(Z4l.1 h1).1
 have h6:=Zjc h3
 rw [Zpx]
 have k1:=Zbt (n:=p.2.2.1) (p:=2) (by omega) (by decide)
 have k2:=Zbt (n:=p.2.2.2.1) (p:=2) (by omega) (by decide)
 have k3:=Zbt (n:=p.2.2.2.2) (p:=2) (by omega) (by decide)
 have h7:(labT p.2.2.1 p.2.2.2.1 p.2.2.2.2 3).length≤123:=by
  unfold labT
  simp only [List.take_succ_cons,List.take_zero,List.flatMap_cons,List.flatMap_nil,List.append_nil,List.length_append,List.length_cons]
  omega
 simp only [List.length_append,List.length_cons,List.length_nil]
 omega
theorem Zml:∀ {l:List PP},(∀ p∈l,soundP p=true)→(l.flatMap rowT).length≤300 * l.length
 | [],_=>by simp
 | p::r,h=>by
  have h1:=Zvi (h p (List.mem_cons_self ..))
  have h2:=Zml (l:=r) fun q hq=>h q (List.mem_cons_of_mem _ hq)
  rw [List.flatMap_cons,List.length_append,List.length_cons]
  omega
set_option maxRecDepth 100000 in
set_option maxHeartbeats 4000000 in
theorem Zeb (ht:Tab w0) {v:Value} {L:List RawP} [hr:RdIn As v RawP cPt L] (hd:DevIn As L) (hs:Shr L) :
  CQ Tryz.prog w0 28 [v] As (.tuple #[.string ⟨(textO31 (L.map ppOf)).1.toArray⟩,.int .i64 (textO31 (L.map ppOf)).2]):=by
 refine Zae v fun pv cv ev=>?_
 subst ev
 refine Zab Tryz.func28 rfl Tryz.ntmps28 rfl ?_
 repeat' first|refine Kz ?_|intro _
 refine TL.callv rfl rfl rfl rfl (Zc6 hd hs) ?_
 rintro _ As ⟨rfl,rfl⟩
 unfold textO31
 cases hc:checkP (L.map ppOf) with
 | false =>
  repeat' first|refine Kz ?_|intro _
  exact Kv
 | true =>
  obtain ⟨hne,h40,hv⟩:=Zxb.1 hc
  rw [List.length_map] at h40
  obtain ⟨r0,hr0⟩:∃ r,L[0]?=some r:=by
   cases L with
   | nil=>exact absurd rfl hne
   | cons a b=>exact ⟨a,rfl⟩
  have hhd:(L.map ppOf).headD ([],[],0,0,0)=ppOf r0:=by
   cases L with
   | nil=>cases hr0
   | cons a b=>cases hr0;rfl
  have hn4:r0.dev.length≤4:=by
   have:=(Z33.1 (hv.sound _ (List.mem_map.2 ⟨r0,List.mem_of_getElem? hr0,rfl⟩)).1).2.1.2
   exact this
  have hsnd:∀ p∈L.map ppOf,soundP p=true:=fun p hp=>(hv.sound p hp).1
  have hpos:0 < L.length:=(List.getElem?_eq_some_iff.1 hr0).1
  obtain ⟨n0,q0,k0,d0,l0,a0,b0⟩:=r0
  have hn4':d0.length≤4:=hn4
  rw [show (textT (L.map ppOf))=headT d0.length++((L.map ppOf).flatMap rowT++(wEnd++[10])) from by unfold textT;rw [hhd];rfl]
  have hrl:=Zml hsnd
  rw [List.length_map] at hrl
  have hdl:(Lib.decDigits d0.length).length≤2:=by rw [Zaw];exact Zbg (by decide) (by omega)
  have hhl:(headT d0.length).length≤20:=by unfold headT wPatches;simp only [List.length_append,List.length_cons,List.length_nil];omega
  repeat' first|refine Kz ?_|intro _
  refine TL.call rfl rfl rfl (Zgk ht (n:=(d0.length:Int)) (by omega) (by omega)) ?_
  rintro _ As ⟨rfl,rfl⟩
  rw [Lib.itoa_nonneg]
  obtain ⟨HT,hHT⟩:∃ HT,headT d0.length=HT:=⟨_,rfl⟩
  have hHe:[112,97,116,99,104,101,115,32]++Lib.decDigits d0.length++[10]=HT:=by rw [← hHT];unfold headT wPatches;simp
  rw [hHT] at hhl ⊢
  repeat' first|refine Kz ?_|intro _
  rename_i b5
  rw [hHe]
  refine TL.ents (Zay (T:=5) cU8) ?_
  refine Zfz (.cl b5 [.pointer none,.slice none 0 0] 167) ?_
  refine TL.call rfl rfl rfl (Zbe (.inl rfl) (by simp) (by omega)) ?_
  rintro _ _ ⟨p',bv',hp',rfl⟩
  clear hHe
  repeat' first|refine Kz ?_|intro _
  refine Tri.midB (fun e' As'=>∃ p bv,(p=.pointer none∨p=.pointer (some ⟨b5,0,none⟩))∧e'=[(5,.pointer (some ⟨b5,0,none⟩))]∧As'=.cl b5 [p,bv] 167::.ow cU8 5 bv (HT++(L.map ppOf).flatMap rowT)::As) ?_ ?_
  ·refine Tri.loop (ι:=Nat × Value × Value) (fun x=>x.1≤L.length∧(x.2.1=.pointer none∨x.2.1=.pointer (some ⟨b5,0,none⟩))) (fun x=>L.length - x.1)
    (fun x=>[(5,.pointer (some ⟨b5,0,none⟩)),(26,.slice pv L.length cv),(27,.int .i64 (L.length:Int)),(28,.int .i64 (x.1:Int))]) (fun x=>.cl b5 [x.2.1,x.2.2] 167::.ow cU8 5 x.2.2 (HT++((L.map ppOf).take x.1).flatMap rowT)::As) (0,p',bv') ⟨Nat.zero_le _,hp'⟩ Zad (by show Ents _ (.cl b5 [p',bv'] 167::.ow cU8 5 bv' (HT++((L.map ppOf).take 0).flatMap rowT)::As);rw [List.take_zero,List.flatMap_nil,List.append_nil];simp only [List.nil_append];(exact Zaa)) ?_
   rintro ⟨i,p,bv⟩ ⟨hi,hp⟩
   simp only at hi hp
   show Tri _ _ _ _ [(5,_),(26,_),(27,_),(28,.int .i64 (i:Int))] (.cl b5 [p,bv] 167::.ow cU8 5 bv (HT++((L.map ppOf).take i).flatMap rowT)::As) _
   repeat' first|refine Kz ?_|intro _
   (refine Kx (fun hc=>?_) fun hc=>?_)
   ·obtain ⟨r,hri⟩:∃ r,L[i]?=some r:=⟨_,List.getElem?_eq_getElem (by omega)⟩
    have hpg:=Zhx hri
    have hsd:=hsnd _ (List.mem_of_getElem? hpg)
    haveI hrd:=hd r (List.mem_of_getElem? hri)
    have hsn:=Zvg hpg
    have hrow:=Zpx (p:=ppOf r)
    have hrl1:=Zvi hsd
    have hrl2:=Zml (l:=(L.map ppOf).take i) (fun p hp=>hsnd p (List.mem_of_mem_take hp))
    have hil:((L.map ppOf).take i).length≤L.length:=by rw [List.length_take,List.length_map];omega
    obtain ⟨nm,q,k,dev,l,a,b⟩:=r
    obtain ⟨s1,s2,s3,s4⟩:=Z33.1 hsd
    have s1':=(Z4l.1 s1).1
    replace s1':1≤nm.length∧nm.length≤12:=s1'
    replace s2:1≤dev.length∧dev.length≤4:=s2
    replace s3:∀ v∈dev,0≤v∧v≤10000:=s3
    replace s4:0≤l∧l≤10000∧-12800≤a∧a≤12700∧-12800≤b∧b≤12700:=s4
    simp only at hrd
    rw [hrow] at hsn
    replace hsn:((L.map ppOf).take (i+1)).flatMap rowT=((L.map ppOf).take i).flatMap rowT++(nm++devT dev++labT l a b 3++[10]):=hsn
    generalize ((L.map ppOf).take i).flatMap rowT=R at hsn hrl2 ⊢
    repeat' first|refine Kz ?_|intro _
    rename_i b7
    show TL _ _ _ _ _ _ (.cl b7 [.string ⟨nm.toArray⟩,.slice q dev.length k,.int .i64 l,.int .i64 a,.int .i64 b] _::_) _
    refine TL.ents (Bs:=.cl b5 [p,bv] 167::.ow cU8 5 bv (HT++R)::.cl b7 [.string ⟨nm.toArray⟩,.slice q dev.length k,.int .i64 l,.int .i64 a,.int .i64 b] 65::As) Zaa ?_
    refine TL.call rfl rfl rfl (Zbe (bs:=HT++R) (s:=nm) hp (by simp only [List.length_append];omega) (by omega)) ?_
    rintro _ _ ⟨p2,bv2,hp2,rfl⟩
    repeat' first|refine Kz ?_|intro _
    refine Tri.midB (fun e' As'=>∃ p bv,(p=.pointer none∨p=.pointer (some ⟨b5,0,none⟩))∧e'=[(5,.pointer (some ⟨b5,0,none⟩)),(26,.slice pv L.length cv),(27,.int .i64 (L.length:Int)),(28,.int .i64 (i:Int)),(7,.pointer (some ⟨b7,0,none⟩))]∧As'=.cl b5 [p,bv] 167::.ow cU8 5 bv (HT++R++nm++devT dev)::.cl b7 [.string ⟨nm.toArray⟩,.slice q dev.length k,.int .i64 l,.int .i64 a,.int .i64 b] 65::As) ?_ ?_
    ·refine Tri.loop (ι:=Nat × Value × Value) (fun x=>x.1≤dev.length∧(x.2.1=.pointer none∨x.2.1=.pointer (some ⟨b5,0,none⟩))) (fun x=>dev.length - x.1)
      (fun x=>[(5,.pointer (some ⟨b5,0,none⟩)),(26,.slice pv L.length cv),(27,.int .i64 (L.length:Int)),(28,.int .i64 (i:Int)),(7,.pointer (some ⟨b7,0,none⟩)),(36,.slice q dev.length k),(37,.int .i64 (dev.length:Int)),(38,.int .i64 (x.1:Int))]) (fun x=>.cl b5 [x.2.1,x.2.2] 167::.ow cU8 5 x.2.2 (HT++R++nm++devT (dev.take x.1))::.cl b7 [.string ⟨nm.toArray⟩,.slice q dev.length k,.int .i64 l,.int .i64 a,.int .i64 b] 65::As) (0,p2,bv2) ⟨Nat.zero_le _,hp2⟩ Zad
      (by show Ents _ (.cl b5 [p2,bv2] 167::.ow cU8 5 bv2 (HT++R++nm++devT (dev.take 0))::.cl b7 [.string ⟨nm.toArray⟩,.slice q dev.length k,.int .i64 l,.int .i64 a,.int .i64 b] 65::As);rw [show devT (dev.take 0)=[] from rfl,List.append_nil];(exact Zaa)) ?_
     rintro ⟨j,p,bv⟩ ⟨hj,hp⟩
     simp only at hj hp
     show Tri _ _ _ _ [(5,_),(26,_),(27,_),(28,_),(7,_),(36,_),(37,_),(38,.int .i64 (j:Int))] (.cl b5 [p,bv] 167::.ow cU8 5 bv (HT++R++nm++devT (dev.take j))::.cl b7 [.string ⟨nm.toArray⟩,.slice q dev.length k,.int .i64 l,.int .i64 a,.int .i64 b] 65::As) _
     have hjl:=Zjc (d:=dev.take j) (fun v hv=>s3 v (List.mem_of_mem_take hv))
     rw [List.length_take] at hjl
     have hmj:min j dev.length≤4:=by omega
     repeat' first|refine Kz ?_|intro _
     (refine Kx (fun hc=>?_) fun hc=>?_)
     ·obtain ⟨x,hx⟩:∃ x,dev[j]?=some x:=⟨_,List.getElem?_eq_getElem (by omega)⟩
      have hxb:=s3 x (List.mem_of_getElem? hx)
      have hsx:=Zw3 hx
      have hdx:=Zbt (n:=x) (p:=4) (by omega) (by decide)
      repeat' first|refine Kz ?_|intro _
      refine Kt rfl (Zl4 ht (n:=x) (p:=4) (by omega) (by decide)) ?_
      repeat' first|refine Kz ?_|intro _
      refine TL.call rfl rfl rfl (Zbe hp (by simp only [List.length_append];omega) (by simp only [List.length_append,List.length_cons,List.length_nil];omega)) ?_
      rintro _ _ ⟨p3,bv3,hp3,rfl⟩
      repeat' first|refine Kz ?_|intro _
      refine Post.round (j+1,p3,bv3) ⟨by simp only;omega,hp3⟩ (by simp only;omega) Zad ?_
      show Ents _ (.cl b5 [p3,bv3] 167::.ow cU8 5 bv3 (HT++R++nm++devT (dev.take (j+1)))::.cl b7 [.string ⟨nm.toArray⟩,.slice q dev.length k,.int .i64 l,.int .i64 a,.int .i64 b] 65::As)
      rw [hsx]
      simp only [List.append_assoc,List.cons_append,List.nil_append]
      (exact Zaa)
     ·repeat' first|refine Kz ?_|intro _
      have e:dev.take j=dev:=List.take_of_length_le (by omega)
      rw [e]
      exact Post.cut _ _ ⟨p,bv,hp,rfl,rfl⟩ Zad Zaa
    rintro _ _ ⟨p4,bv4,hp4,rfl,rfl⟩
    have hdl2:=Zjc s3
    repeat' first|refine Kz ?_|intro _
    refine Tri.midB (fun e' As'=>∃ p bv,(p=.pointer none∨p=.pointer (some ⟨b5,0,none⟩))∧e'=[(5,.pointer (some ⟨b5,0,none⟩)),(26,.slice pv L.length cv),(27,.int .i64 (L.length:Int)),(28,.int .i64 (i:Int)),(7,.pointer (some ⟨b7,0,none⟩))]∧As'=.cl b5 [p,bv] 167::.ow cU8 5 bv (HT++R++nm++devT dev++labT l a b 3)::.cl b7 [.string ⟨nm.toArray⟩,.slice q dev.length k,.int .i64 l,.int .i64 a,.int .i64 b] 65::As) ?_ ?_
    ·refine Tri.loop (ι:=Nat × Value × Value) (fun x=>x.1≤3∧(x.2.1=.pointer none∨x.2.1=.pointer (some ⟨b5,0,none⟩))) (fun x=>3 - x.1)
      (fun x=>[(5,.pointer (some ⟨b5,0,none⟩)),(26,.slice pv L.length cv),(27,.int .i64 (L.length:Int)),(28,.int .i64 (i:Int)),(7,.pointer (some ⟨b7,0,none⟩)),(48,.agg #[.int .i64 l,.int .i64 a,.int .i64 b]),(49,.int .i64 (x.1:Int))]) (fun x=>.cl b5 [x.2.1,x.2.2] 167::.ow cU8 5 x.2.2 (HT++R++nm++devT dev++labT l a b x.1)::.cl b7 [.string ⟨nm.toArray⟩,.slice q dev.length k,.int .i64 l,.int .i64 a,.int .i64 b] 65::As) (0,p4,bv4) ⟨Nat.zero_le _,hp4⟩ Zad
      (by show Ents _ (.cl b5 [p4,bv4] 167::.ow cU8 5 bv4 (HT++R++nm++devT dev++labT l a b 0)::.cl b7 [.string ⟨nm.toArray⟩,.slice q dev.length k,.int .i64 l,.int .i64 a,.int .i64 b] 65::As);rw [show labT l a b 0=[] from rfl,List.append_nil];(exact Zaa)) ?_
     rintro ⟨j,p,bv⟩ ⟨hj,hp⟩
     simp only at hj hp
     show Tri _ _ _ _ [(5,_),(26,_),(27,_),(28,_),(7,_),(48,_),(49,.int .i64 (j:Int))] (.cl b5 [p,bv] 167::.ow cU8 5 bv (HT++R++nm++devT dev++labT l a b j)::.cl b7 [.string ⟨nm.toArray⟩,.slice q dev.length k,.int .i64 l,.int .i64 a,.int .i64 b] 65::As) _
     have hjl:(labT l a b j).length≤123:=by
      have k1:=Zbt (n:=l) (p:=2) (by omega) (by decide)
      have k2:=Zbt (n:=a) (p:=2) (by omega) (by decide)
      have k3:=Zbt (n:=b) (p:=2) (by omega) (by decide)
      obtain rfl|rfl|rfl|rfl:j=0∨j=1∨j=2∨j=3:=by omega
      all_goals
       unfold labT
       simp only [List.take_succ_cons,List.take_zero,List.flatMap_cons,List.flatMap_nil,List.append_nil,List.length_append,List.length_cons,List.length_nil]
       omega
     repeat' first|refine Kz ?_|intro _
     (refine Kx (fun hc=>?_) fun hc=>?_)
     ·have hxb:-1000000000≤labV l a b j∧labV l a b j≤1000000000:=by unfold labV;split;omega;split<;>omega
      have hsx:labT l a b (j+1)=labT l a b j++32::decT (labV l a b j) 2:=by
       obtain rfl|rfl|rfl:j=0∨j=1∨j=2:=by omega
       all_goals simp [labT,labV]
      have hdx:=Zbt (n:=labV l a b j) (p:=2) hxb (by decide)
      iterate 4 refine Stp.h ?_
      refine Tri.cut (fun e' As'=>e'=[(5,.pointer (some ⟨b5,0,none⟩)),(26,.slice pv L.length cv),(27,.int .i64 (L.length:Int)),(28,.int .i64 (i:Int)),(7,.pointer (some ⟨b7,0,none⟩)),(11,.int .i64 (labV l a b j)),(48,.agg #[.int .i64 l,.int .i64 a,.int .i64 b]),(49,.int .i64 (j:Int))]∧As'=.cl b5 [p,bv] 167::.ow cU8 5 bv (HT++R++nm++devT dev++labT l a b j)::.cl b7 [.string ⟨nm.toArray⟩,.slice q dev.length k,.int .i64 l,.int .i64 a,.int .i64 b] 65::As) ?_ ?_
      ·obtain rfl|rfl|rfl:j=0∨j=1∨j=2:=by omega
       ·repeat' first|refine Kz ?_|intro _
        exact Post.cut _ _ ⟨rfl,rfl⟩ (by show Go.Sx.Sub _ [(5,.pointer (some ⟨b5,0,none⟩)),(26,.slice pv L.length cv),(27,.int .i64 (L.length:Int)),(28,.int .i64 (i:Int)),(7,.pointer (some ⟨b7,0,none⟩)),(11,.int .i64 l),(48,.agg #[.int .i64 l,.int .i64 a,.int .i64 b]),(49,.int .i64 0)];(exact Zad)) Zaa
       ·repeat' first|refine Kz ?_|intro _
        exact Post.cut _ _ ⟨rfl,rfl⟩ (by show Go.Sx.Sub _ [(5,.pointer (some ⟨b5,0,none⟩)),(26,.slice pv L.length cv),(27,.int .i64 (L.length:Int)),(28,.int .i64 (i:Int)),(7,.pointer (some ⟨b7,0,none⟩)),(11,.int .i64 a),(48,.agg #[.int .i64 l,.int .i64 a,.int .i64 b]),(49,.int .i64 1)];(exact Zad)) Zaa
       ·repeat' first|refine Kz ?_|intro _
        exact Post.cut _ _ ⟨rfl,rfl⟩ (by show Go.Sx.Sub _ [(5,.pointer (some ⟨b5,0,none⟩)),(26,.slice pv L.length cv),(27,.int .i64 (L.length:Int)),(28,.int .i64 (i:Int)),(7,.pointer (some ⟨b7,0,none⟩)),(11,.int .i64 b),(48,.agg #[.int .i64 l,.int .i64 a,.int .i64 b]),(49,.int .i64 2)];(exact Zad)) Zaa
      rintro _ _ ⟨rfl,rfl⟩
      generalize labV l a b j=x at hxb hsx hdx ⊢
      repeat' first|refine Kz ?_|intro _
      refine Kt rfl (Zl4 ht (n:=x) (p:=2) hxb (by decide)) ?_
      repeat' first|refine Kz ?_|intro _
      refine TL.call rfl rfl rfl (Zbe hp (by simp only [List.length_append];omega) (by simp only [List.length_append,List.length_cons,List.length_nil];omega)) ?_
      rintro _ _ ⟨p3,bv3,hp3,rfl⟩
      repeat' first|refine Kz ?_|intro _
      refine Post.round (j+1,p3,bv3) ⟨by simp only;omega,hp3⟩ (by simp only;omega) Zad ?_
      show Ents _ (.cl b5 [p3,bv3] 167::.ow cU8 5 bv3 (HT++R++nm++devT dev++labT l a b (j+1))::.cl b7 [.string ⟨nm.toArray⟩,.slice q dev.length k,.int .i64 l,.int .i64 a,.int .i64 b] 65::As)
      rw [hsx]
      simp only [List.append_assoc,List.cons_append,List.nil_append]
      (exact Zaa)
     ·repeat' first|refine Kz ?_|intro _
      obtain rfl:j=3:=by omega
      exact Post.cut _ _ ⟨p,bv,hp,rfl,rfl⟩ Zad Zaa
    rintro _ _ ⟨p5,bv5,hp5,rfl,rfl⟩
    have hll:(labT l a b 3).length≤123:=by
     have k1:=Zbt (n:=l) (p:=2) (by omega) (by decide)
     have k2:=Zbt (n:=a) (p:=2) (by omega) (by decide)
     have k3:=Zbt (n:=b) (p:=2) (by omega) (by decide)
     unfold labT
     simp only [List.take_succ_cons,List.take_zero,List.flatMap_cons,List.flatMap_nil,List.append_nil,List.length_append,List.length_cons]
     omega
    repeat' first|refine Kz ?_|intro _
    refine TL.call rfl rfl rfl (Zbe (s:=[10]) hp5 (by simp only [List.length_append];omega) (by decide)) ?_
    rintro _ _ ⟨p6,bv6,hp6,rfl⟩
    repeat' first|refine Kz ?_|intro _
    refine Post.round (i+1,p6,bv6) ⟨by simp only;omega,hp6⟩ (by simp only;omega) Zad ?_
    show Ents _ (.cl b5 [p6,bv6] 167::.ow cU8 5 bv6 (HT++((L.map ppOf).take (i+1)).flatMap rowT)::As)
    rw [hsn]
    simp only [← List.append_assoc]
    (exact Zaa)
   ·repeat' first|refine Kz ?_|intro _
    have e:(L.map ppOf).take i=L.map ppOf:=List.take_of_length_le (by rw [List.length_map];omega)
    rw [e]
    exact Post.cut _ _ ⟨p,bv,hp,rfl,rfl⟩ Zad Zaa
  rintro _ _ ⟨p7,bv7,hp7,rfl,rfl⟩
  repeat' first|refine Kz ?_|intro _
  refine TL.call rfl rfl rfl (Zbe (s:=wEnd++[10]) hp7 (by rw [List.length_append];omega) (by decide)) ?_
  rintro _ _ ⟨p8,bv8,hp8,rfl⟩
  repeat' first|refine Kz ?_|intro _
  refine TL.call rfl rfl rfl (Zjo (by simp [wEnd]) (by simp only [List.length_append,wEnd,List.length_cons,List.length_nil];omega)) ?_
  rintro _ As ⟨rfl,rfl⟩
  repeat' first|refine Kz ?_|intro _
  (refine Zac ?_)
  exact ⟨_,⟨by simp only [List.append_assoc];rfl,rfl⟩,Zaa⟩
end Go.Proofs.YtciadfpomkdlnaaGreatDoor.Q
