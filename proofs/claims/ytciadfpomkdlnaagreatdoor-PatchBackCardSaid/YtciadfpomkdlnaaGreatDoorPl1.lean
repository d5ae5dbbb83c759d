/- Walks: the law on measured patches: one, reads, refuses, the examples. -/
import Derived.Test.YtciadfpomkdlnaaGreatDoorPwb
import Derived.Test.YtciadfpomkdlnaaGreatDoorVa1
set_option maxHeartbeats 1000000
namespace Go.Proofs.YtciadfpomkdlnaaGreatDoor.Q
open Go Go.Sx
variable {w0:World} {As:List Ent}
theorem Zfr {nm:List UInt8} {p:Option Addr} {n c:Nat} {l a b:Int}:CQ Tryz.prog w0 33 [.string ⟨nm.toArray⟩,.agg #[.int .i64 l,.int .i64 a,.int .i64 b],.slice p n c] As (.agg #[.string ⟨nm.toArray⟩,.slice p n c,.int .i64 l,.int .i64 a,.int .i64 b]):=by
 refine Zab Tryz.func33 rfl Tryz.ntmps33 rfl ?_
 repeat' first|refine Kz ?_|intro _
 exact Kv
theorem Zvu {s:List UInt8} {L:List RawP} (h:L.map ppOf=(parseT s).1):Fwd L:=by
 cases hp:parseT s with
 | mk l r =>
  obtain ⟨k,e⟩:=r
  rw [hp] at h
  simp only at h
  by_cases h0:e=0
  ·subst h0
   obtain ⟨_,h1,h2⟩:=Zw9.1 (Zgm hp).2
   rw [← h] at h1 h2
   refine ⟨by rw [List.length_map] at h1;omega,fun r hr=>?_⟩
   have:=(Z3v.1 (h2.sound (ppOf r) (List.mem_map_of_mem hr)).1).2.1.2
   exact Nat.le_trans this (by decide)
  ·have:=(Zh0 hp h0).1
   rw [this] at h
   have hL:L=[]:=List.map_eq_nil_iff.1 h
   subst hL
   exact ⟨Nat.zero_le _,fun r hr=>by cases hr⟩
theorem Zfp (ht:Tab w0) (he:ErrR w0) (hm:LenR w0) {s:List UInt8} {v:Value} {L:List RawP} [hr:RdIn As v RawP cPt L] (dL:DevIn As L) (fL:Fwd L) (hs:s.length≤1000000000) :
  CQ Tryz.prog w0 32 [.string ⟨s.toArray⟩,v] As (.bool (decide ((parseT s).1=L.map ppOf∧(parseT s).2.1=0∧(parseT s).2.2=0))):=by
 refine Zab Tryz.func32 rfl Tryz.ntmps32 rfl ?_
 repeat' first|refine Kz ?_|intro _
 refine TL.callv rfl rfl rfl rfl (Zfq ht he hm hs) ?_
 rintro _ _ ⟨v',L',h1,rfl,rfl⟩
 repeat' first|refine Kz ?_|intro _
 refine Ks rfl (Zi0 (v:=v') (A:=L') (B:=L) (fun r hr=>Zay (L:=L') (by simp) r hr) (dL.tl.tl) (Zvu h1) fL) ?_
 rw [h1]
 generalize parseT s=R
 obtain ⟨r1,r2,r3⟩:=R
 simp only
 by_cases k1:r1=L.map ppOf
 ·by_cases k2:(r2:Int)=0
  ·by_cases k3:r3=0
   ·repeat' first|refine Kz ?_|intro _
    (refine Zac ?_)
    exact ⟨_,⟨by simp [k1,k3];try omega,rfl⟩,Zaa⟩
   ·repeat' first|refine Kz ?_|intro _
    (refine Zac ?_)
    exact ⟨_,⟨by simp [k1,k3],rfl⟩,Zaa⟩
  ·repeat' first|refine Kz ?_|intro _
   (refine Zac ?_)
   exact ⟨_,⟨by rw [decide_eq_false (fun h=>k2 (by omega))],rfl⟩,Zaa⟩
 ·repeat' first|refine Kz ?_|intro _
  (refine Zac ?_)
  exact ⟨_,⟨by rw [decide_eq_false (fun h=>k1 h.1)],rfl⟩,Zaa⟩
theorem Zcs (ht:Tab w0) (he:ErrR w0) (hm:LenR w0) {s:List UInt8} {n:Nat} {e:Int} (hs:s.length≤1000000000) :
  CQ Tryz.prog w0 38 [.string ⟨s.toArray⟩,.int .i64 (n:Int),.int .i64 e] As (.bool (decide ((parseT s).1.length=0∧(parseT s).2.1=n∧(parseT s).2.2=e))):=by
 refine Zab Tryz.func38 rfl Tryz.ntmps38 rfl ?_
 repeat' first|refine Kz ?_|intro _
 refine TL.callv rfl rfl rfl rfl (Zfq ht he hm hs) ?_
 rintro _ _ ⟨v',L',h1,rfl,rfl⟩
 have hl:L'.length=(parseT s).1.length:=by rw [← h1,List.length_map]
 generalize parseT s=R at h1 hl ⊢
 obtain ⟨r1,r2,r3⟩:=R
 simp only at hl ⊢
 repeat' first|refine Kz ?_|intro _
 refine TL.f rfl rfl (Zhr (v:=v') rfl) ?_
 by_cases k1:(L'.length:Int)=0
 ·by_cases k2:(r2:Int)=(n:Int)
  ·by_cases k3:r3=e
   ·repeat' first|refine Kz ?_|intro _
    (refine Zac ?_)
    exact ⟨_,⟨by congr 1;rw [decide_eq_decide];exact ⟨fun h=>⟨by omega,by omega,h⟩,fun h=>h.2.2⟩,rfl⟩,Zaa⟩
   ·repeat' first|refine Kz ?_|intro _
    (refine Zac ?_)
    exact ⟨_,⟨by congr 1;rw [decide_eq_decide];exact ⟨fun h=>⟨by omega,by omega,h⟩,fun h=>h.2.2⟩,rfl⟩,Zaa⟩
  ·repeat' first|refine Kz ?_|intro _
   (refine Zac ?_)
   exact ⟨_,⟨by rw [decide_eq_false (fun h=>k2 (by omega))],rfl⟩,Zaa⟩
 ·repeat' first|refine Kz ?_|intro _
  (refine Zac ?_)
  exact ⟨_,⟨by rw [decide_eq_false (fun h=>k1 (by omega))],rfl⟩,Zaa⟩
theorem Z37 {L:List RawP} {l:List PP} (h:L.map ppOf=l) (h2:(decide (l.length≤1000)&&l.all fun p=>decide (p.2.1.length≤1000))=true):Fwd L:=by
 rw [Bool.and_eq_true,decide_eq_true_eq,List.all_eq_true] at h2
 subst h
 refine ⟨by have:=h2.1;rw [List.length_map] at this;omega,fun r hr=>?_⟩
 have:=of_decide_eq_true (h2.2 (ppOf r) (List.mem_map_of_mem hr))
 exact Nat.le_trans this (by decide)
set_option maxRecDepth 100000 in
set_option maxHeartbeats 2000000 in
theorem Zfj (ht:Tab w0) (he:ErrR w0) (hm:LenR w0):CQ Tryz.prog w0 22 [] As (.bool true):=by
 refine Zab Tryz.func22 rfl Tryz.ntmps22 rfl ?_
 repeat' first|refine Kz ?_|intro _
 rename_i bA
 refine TL.ents (Zaz (cI .i64) [0,5000] rfl rfl rfl) ?_
 refine TL.ents Ents.freeze ?_
 refine Ks rfl Zfr ?_
 repeat' first|refine Kz ?_|intro _
 rename_i bL1
 refine TL.ents (Zaz cPt [⟨[65],some ⟨bA,0,none⟩,2,[0,5000],5000,(-300),225⟩] rfl rfl rfl) ?_
 refine TL.callv rfl rfl rfl rfl (Zfp ht he hm (s:=[112,97,116,99,104,101,115,32,50,10,65,32,48,32,48,46,53,32,53,48,32,45,51,32,50,46,50,53,10,101,110,100,10]) (L:=[⟨[65],some ⟨bA,0,none⟩,2,[0,5000],5000,(-300),225⟩]) (fun r hr=>?_) ⟨Nat.le_of_ble_eq_true rfl,fun r hr=>?_⟩ (by decide)) ?_
 ·rw [List.mem_singleton.1 hr];infer_instance
 ·rw [List.mem_singleton.1 hr];exact Nat.le_of_ble_eq_true rfl
 rintro _ _ ⟨rfl,rfl⟩
 rw [decide_eq_true (show (parseT [112,97,116,99,104,101,115,32,50,10,65,32,48,32,48,46,53,32,53,48,32,45,51,32,50,46,50,53,10,101,110,100,10]).1=List.map ppOf [⟨[65],some ⟨bA,0,none⟩,2,[0,5000],5000,(-300),225⟩]∧_∧_ from (show (parseT [112,97,116,99,104,101,115,32,50,10,65,32,48,32,48,46,53,32,53,48,32,45,51,32,50,46,50,53,10,101,110,100,10]).1=[([65],[0,5000],5000,(-300),225)]∧(parseT [112,97,116,99,104,101,115,32,50,10,65,32,48,32,48,46,53,32,53,48,32,45,51,32,50,46,50,53,10,101,110,100,10]).2.1=0∧(parseT [112,97,116,99,104,101,115,32,50,10,65,32,48,32,48,46,53,32,53,48,32,45,51,32,50,46,50,53,10,101,110,100,10]).2.2=0 by decide +kernel))]
 repeat' first|refine Kz ?_|intro _
 rename_i bL2
 refine TL.ents (Zaz cPt [⟨[65],some ⟨bA,0,none⟩,2,[0,5000],5000,(-300),225⟩] rfl rfl rfl) ?_
 refine TL.callv rfl rfl rfl rfl (Zfp ht he hm (s:=[35,32,120,10,10,112,97,116,99,104,101,115,32,50,10,32,65,32,32,48,9,48,46,53,48,32,53,48,46,48,48,32,45,51,32,50,46,50,53,10,101,110,100]) (L:=[⟨[65],some ⟨bA,0,none⟩,2,[0,5000],5000,(-300),225⟩]) (fun r hr=>?_) ⟨Nat.le_of_ble_eq_true rfl,fun r hr=>?_⟩ (by decide)) ?_
 ·rw [List.mem_singleton.1 hr];infer_instance
 ·rw [List.mem_singleton.1 hr];exact Nat.le_of_ble_eq_true rfl
 rintro _ _ ⟨rfl,rfl⟩
 rw [decide_eq_true (show (parseT [35,32,120,10,10,112,97,116,99,104,101,115,32,50,10,32,65,32,32,48,9,48,46,53,48,32,53,48,46,48,48,32,45,51,32,50,46,50,53,10,101,110,100]).1=List.map ppOf [⟨[65],some ⟨bA,0,none⟩,2,[0,5000],5000,(-300),225⟩]∧_∧_ from (show (parseT [35,32,120,10,10,112,97,116,99,104,101,115,32,50,10,32,65,32,32,48,9,48,46,53,48,32,53,48,46,48,48,32,45,51,32,50,46,50,53,10,101,110,100]).1=[([65],[0,5000],5000,(-300),225)]∧(parseT [35,32,120,10,10,112,97,116,99,104,101,115,32,50,10,32,65,32,32,48,9,48,46,53,48,32,53,48,46,48,48,32,45,51,32,50,46,50,53,10,101,110,100]).2.1=0∧(parseT [35,32,120,10,10,112,97,116,99,104,101,115,32,50,10,32,65,32,32,48,9,48,46,53,48,32,53,48,46,48,48,32,45,51,32,50,46,50,53,10,101,110,100]).2.2=0 by decide +kernel))]
 repeat' first|refine Kz ?_|intro _
 refine Ks rfl (Zcs ht he hm (s:=[112,97,116,99,104,101,115,32,50,10,65,32,48,32,48,46,53,32,53,48,32,45,51,10,101,110,100,10]) (n:=2) (e:=5) (by decide)) ?_
 rw [decide_eq_true (by decide +kernel)]
 repeat' first|refine Kz ?_|intro _
 refine Ks rfl (Zcs ht he hm (s:=[112,97,116,99,104,101,115,32,53,10,101,110,100,10]) (n:=1) (e:=5) (by decide)) ?_
 rw [decide_eq_true (by decide +kernel)]
 repeat' first|refine Kz ?_|intro _
 refine Ks rfl (Zcs ht he hm (s:=[112,97,116,99,104,101,115,32,49,10,65,32,49,46,48,48,48,48,49,32,53,48,32,48,32,48,10,101,110,100,10]) (n:=2) (e:=5) (by decide)) ?_
 rw [decide_eq_true (by decide +kernel)]
 repeat' first|refine Kz ?_|intro _
 refine Ks rfl (Zcs ht he hm (s:=[112,97,116,99,104,101,115,32,49,10,65,32,49,32,53,48,32,48,32,48,10,65,32,48,32,53,48,32,48,32,48,10,101,110,100,10]) (n:=3) (e:=5) (by decide)) ?_
 rw [decide_eq_true (by decide +kernel)]
 repeat' first|refine Kz ?_|intro _
 refine Ks rfl (Zcs ht he hm (s:=[112,97,116,99,104,101,115,32,49,10,101,110,100,10]) (n:=0) (e:=5) (by decide)) ?_
 rw [decide_eq_true (by decide +kernel)]
 repeat' first|refine Kz ?_|intro _
 refine Ks rfl (Zcs ht he hm (s:=[112,97,116,99,104,101,115,32,49,10,65,32,49,32,53,48,32,48,32,48,10]) (n:=0) (e:=5) (by decide)) ?_
 rw [decide_eq_true (by decide +kernel)]
 repeat' first|refine Kz ?_|intro _
 rename_i bB
 refine TL.ents (Zaz (cI .i64) [0] rfl rfl rfl) ?_
 refine TL.ents Ents.freeze ?_
 refine Ks rfl Zfr ?_
 repeat' first|refine Kz ?_|intro _
 rename_i bC
 refine TL.ents (Zaz (cI .i64) [10000] rfl rfl rfl) ?_
 refine TL.ents Ents.freeze ?_
 refine Ks rfl Zfr ?_
 repeat' first|refine Kz ?_|intro _
 rename_i bD
 refine TL.ents (Zaz (cI .i64) [0] rfl rfl rfl) ?_
 refine TL.ents Ents.freeze ?_
 refine Ks rfl Zfr ?_
 repeat' first|refine Kz ?_|intro _
 rename_i bM
 refine TL.ents (Zaz cPt [⟨[65],some ⟨bB,0,none⟩,1,[0],5000,0,0⟩,⟨[66],some ⟨bC,0,none⟩,1,[10000],4000,0,0⟩,⟨[67],some ⟨bD,0,none⟩,1,[0],5001,100,(-100)⟩] rfl rfl rfl) ?_
 refine TL.callv rfl rfl rfl rfl (Zm0 ht he (L:=[⟨[65],some ⟨bB,0,none⟩,1,[0],5000,0,0⟩,⟨[66],some ⟨bC,0,none⟩,1,[10000],4000,0,0⟩,⟨[67],some ⟨bD,0,none⟩,1,[0],5001,100,(-100)⟩]) (fun r hr=>?_) ⟨Nat.le_of_ble_eq_true rfl,fun r hr=>?_⟩) ?_
 ·simp only [List.mem_cons,List.not_mem_nil,or_false] at hr
  rcases hr with rfl|rfl|rfl<;>infer_instance
 ·simp only [List.mem_cons,List.not_mem_nil,or_false] at hr
  rcases hr with rfl|rfl|rfl<;>exact Nat.le_of_ble_eq_true rfl
 rintro _ _ ⟨vm,Lm,h1,rfl,rfl⟩
 have hmo:mergeO (List.map ppOf [⟨[65],some ⟨bB,0,none⟩,1,[0],5000,0,0⟩,⟨[66],some ⟨bC,0,none⟩,1,[10000],4000,0,0⟩,⟨[67],some ⟨bD,0,none⟩,1,[0],5001,100,(-100)⟩])=([([65],[0],5001,50,(-50)),([66],[10000],4000,0,0)],0):=(show mergeO [([65],[0],5000,0,0),([66],[10000],4000,0,0),([67],[0],5001,100,(-100))]=_ by decide +kernel)
 rw [hmo] at h1 ⊢
 simp only at h1
 repeat' first|refine Kz ?_|intro _
 rename_i bE
 refine TL.ents (Zaz (cI .i64) [0] rfl rfl rfl) ?_
 refine TL.ents Ents.freeze ?_
 refine Ks rfl Zfr ?_
 repeat' first|refine Kz ?_|intro _
 rename_i bF
 refine TL.ents (Zaz (cI .i64) [10000] rfl rfl rfl) ?_
 refine TL.ents Ents.freeze ?_
 refine Ks rfl Zfr ?_
 repeat' first|refine Kz ?_|intro _
 rename_i bN
 refine TL.ents (Zaz cPt [⟨[65],some ⟨bE,0,none⟩,1,[0],5001,50,(-50)⟩,⟨[66],some ⟨bF,0,none⟩,1,[10000],4000,0,0⟩] rfl rfl rfl) ?_
 refine TL.callv rfl rfl rfl rfl (Zi0 (v:=vm) (A:=Lm) (B:=[⟨[65],some ⟨bE,0,none⟩,1,[0],5001,50,(-50)⟩,⟨[66],some ⟨bF,0,none⟩,1,[10000],4000,0,0⟩]) (fun r hr=>Zay (L:=Lm) (by simp) r hr) (fun r hr=>?_) (Z37 h1 (by decide)) ⟨Nat.le_of_ble_eq_true rfl,fun r hr=>?_⟩) ?_
 ·simp only [List.mem_cons,List.not_mem_nil,or_false] at hr
  rcases hr with rfl|rfl<;>infer_instance
 ·simp only [List.mem_cons,List.not_mem_nil,or_false] at hr
  rcases hr with rfl|rfl<;>exact Nat.le_of_ble_eq_true rfl
 rintro _ _ ⟨rfl,rfl⟩
 rw [decide_eq_true (show List.map ppOf Lm=List.map ppOf [⟨[65],some ⟨bE,0,none⟩,1,[0],5001,50,(-50)⟩,⟨[66],some ⟨bF,0,none⟩,1,[10000],4000,0,0⟩] from h1)]
 repeat' first|refine Kz ?_|intro _
 (refine Zac ?_)
 exact ⟨_,⟨rfl,rfl⟩,(show Ents _ _ from Zaa)⟩
end Go.Proofs.YtciadfpomkdlnaaGreatDoor.Q
namespace Go.Sx
open Go
structure W7 where
 a:Int
 b:Int
 c:Int
 d:Int
 e:Int
 f:Int
 g:Int
def W7.cells (x:W7):List Value:=[.int .i16 x.a,.int .i16 x.b,.int .i16 x.c,.int .i16 x.d,.int .i16 x.e,.int .i16 x.f,.int .i16 x.g]
def W7.l (x:W7):List Int:=[x.a,x.b,x.c,x.d,x.e,x.f,x.g]
def W7.ok (x:W7):Prop:=∀ v∈x.l,-32768≤v∧v≤32767
def c7:Cod W7:=⟨7,W7.cells,fun _=>rfl,fun x v hv=>by
 simp only [W7.cells,List.mem_cons,List.not_mem_nil,or_false] at hv
 rcases hv with rfl|rfl|rfl|rfl|rfl|rfl|rfl<;>rfl⟩
instance {a b c d e f g:Int}:EncL c7 ⟨a,b,c,d,e,f,g⟩ [.int .i16 a,.int .i16 b,.int .i16 c,.int .i16 d,.int .i16 e,.int .i16 f,.int .i16 g]:=⟨rfl⟩
end Go.Sx
namespace Go.Proofs.YtciadfpomkdlnaaGreatDoor.Q
open Go Go.Sx
variable {w0:World} {As:List Ent}
theorem Zmh {x:Int} {m:Int} (h:0 < m):-(m - 1)≤Int.tmod x m∧Int.tmod x m≤m - 1:=by
 have h1:=Int.tmod_lt_of_pos x h
 have h2:=Int.lt_tmod_of_pos x h
 exact ⟨by omega,by omega⟩
def devD (v:Int):Int:=((v.natAbs % 9:Nat):Int) * 1250
def patD (n i:Nat) (x:W7):PP:=(112::textI (i:Int),(x.l.take n).map devD,5000+Int.tmod x.e 5000,Int.tmod x.f 12700,Int.tmod x.g 12700)
set_option maxRecDepth 100000 in
theorem Z2e (_ht:Tab w0) {ch:Nat} {lv:Value} {X:List W7} {i n:Nat} {x:W7} [hr:RdIn As lv W7 c7 X] (hx:X[i]?=some x) (hok:x.ok) (hn:1≤n∧n≤4) (hi:i < 12) :
  CallsS Tryz.prog w0 90 [.agg #[.int .u8 (ch:Int),lv],.int .i64 (i:Int),.int .i64 (n:Int)] As fun u Bs=>∃ r:RawP,ppOf r=patD n i x∧u=.agg #[.string ⟨r.nm.toArray⟩,.slice r.p r.dev.length r.c,.int .i64 r.l,.int .i64 r.a,.int .i64 r.b]∧Bs=.ft (rd (cI .i64) (.slice r.p r.dev.length r.c) r.dev)::As:=by
 refine Zab Tryz.func90 rfl Tryz.ntmps90 rfl ?_
 obtain ⟨x0,x1,x2,x3,x4,x5,x6⟩:=x
 have hb0:=hok x0 (by simp [W7.l])
 have hb1:=hok x1 (by simp [W7.l])
 have hb2:=hok x2 (by simp [W7.l])
 have hb3:=hok x3 (by simp [W7.l])
 have hb4:=hok x4 (by simp [W7.l])
 have hb5:=hok x5 (by simp [W7.l])
 have hb6:=hok x6 (by simp [W7.l])
 have ht4:-4999≤Int.tmod x4 5000∧Int.tmod x4 5000≤4999:=Zmh (by decide)
 have hpp:(([112]++textI (i:Int),(([x0,x1,x2,x3,x4,x5,x6]:List Int).take n).map devD,5000+Int.tmod x4 5000,Int.tmod x5 12700,Int.tmod x6 12700):PP)=patD n i ⟨x0,x1,x2,x3,x4,x5,x6⟩:=rfl
 have hti:(textI (i:Int)).length≤30:=by
  have hh:∀ j:Nat,j < 12→(textI (j:Int)).length≤30:=by decide +kernel
  exact hh i hi
 repeat' first|refine Kz ?_|intro _
 refine Ks rfl (Z4a (n:=(i:Int)) (by omega) (by omega)) ?_
 generalize textI (i:Int)=nmI at *
 have hiX:=(List.getElem?_eq_some_iff.1 hx).1
 repeat' first|refine Kz ?_|intro _
 refine TL.f rfl rfl (ExF.build (l:=[.string ⟨([112]++nmI).toArray⟩,.slice none 0 0,.int .i64 0,.int .i64 0,.int .i64 0]) rfl (fun w=>by kernel_rfl)) ?_
 repeat' first|refine Kz ?_|intro _
 rename_i b3 b6 b7 b8
 haveI:ElC Tryz.prog 3 Int (cI .i64) 0 8:=⟨by obtain ⟨i,h1,h2,h3,h4⟩:=(inferInstance:TI Tryz.prog 3 _ _ _).info;exact ⟨i,_,h1,h2,h3,h4,rfl⟩,by decide⟩
 refine Tri.midB (fun e' As'=>∃ v:Value,e'=[(6,.pointer (some ⟨b6,0,none⟩)),(7,.pointer (some ⟨b7,0,none⟩)),(8,.pointer (some ⟨b8,0,none⟩))]∧As'=.ow (cI .i64) 3 v ((([x0,x1,x2,x3,x4,x5,x6]:List Int).take n).map devD)::.cl b7 [.string ⟨([112]++nmI).toArray⟩,v,.int .i64 0,.int .i64 0,.int .i64 0] 65::.cl b8 [.int .i16 x0,.int .i16 x1,.int .i16 x2,.int .i16 x3,.int .i16 x4,.int .i16 x5,.int .i16 x6] 243::.cl b6 [.string ⟨#[]⟩,.slice none 0 0,.int .i64 0,.int .i64 0,.int .i64 0] 65::As) ?_ ?_
 ·refine Tri.loop (ι:=Nat × Value) (fun x=>x.1≤n) (fun x=>n - x.1) (fun x=>[(2,.int .i64 (n:Int)),(6,.pointer (some ⟨b6,0,none⟩)),(7,.pointer (some ⟨b7,0,none⟩)),(8,.pointer (some ⟨b8,0,none⟩)),(9,.int .i64 (x.1:Int))]) (fun x=>.ow (cI .i64) 3 x.2 ((([x0,x1,x2,x3,x4,x5,x6]:List Int).take x.1).map devD)::.cl b7 [.string ⟨([112]++nmI).toArray⟩,x.2,.int .i64 0,.int .i64 0,.int .i64 0] 65::.cl b8 [.int .i16 x0,.int .i16 x1,.int .i16 x2,.int .i16 x3,.int .i16 x4,.int .i16 x5,.int .i16 x6] 243::.cl b6 [.string ⟨#[]⟩,.slice none 0 0,.int .i64 0,.int .i64 0,.int .i64 0] 65::As) (0,.slice none 0 0) (Nat.zero_le _) (by show Go.Sx.Sub _ [(2,.int .i64 (n:Int)),(6,.pointer (some ⟨b6,0,none⟩)),(7,.pointer (some ⟨b7,0,none⟩)),(8,.pointer (some ⟨b8,0,none⟩)),(9,.int .i64 0)];(exact Zad)) (Ents.trans (Zav (T:=3) (cI .i64)) (by show Ents _ (.ow (cI .i64) 3 (.slice none 0 0) []::.cl b7 [.string ⟨([112]++nmI).toArray⟩,.slice none 0 0,.int .i64 0,.int .i64 0,.int .i64 0] 65::.cl b8 [.int .i16 x0,.int .i16 x1,.int .i16 x2,.int .i16 x3,.int .i16 x4,.int .i16 x5,.int .i16 x6] 243::.cl b6 [.string ⟨#[]⟩,.slice none 0 0,.int .i64 0,.int .i64 0,.int .i64 0] 65::As);(exact Zaa))) ?_
  rintro ⟨k,v⟩ hk
  replace hk:k≤n:=hk
  show Tri _ _ _ _ [(2,.int .i64 (n:Int)),(6,.pointer (some ⟨b6,0,none⟩)),(7,.pointer (some ⟨b7,0,none⟩)),(8,.pointer (some ⟨b8,0,none⟩)),(9,.int .i64 (k:Int))] (.ow (cI .i64) 3 v ((([x0,x1,x2,x3,x4,x5,x6]:List Int).take k).map devD)::.cl b7 [.string ⟨([112]++nmI).toArray⟩,v,.int .i64 0,.int .i64 0,.int .i64 0] 65::.cl b8 [.int .i16 x0,.int .i16 x1,.int .i16 x2,.int .i16 x3,.int .i16 x4,.int .i16 x5,.int .i16 x6] 243::.cl b6 [.string ⟨#[]⟩,.slice none 0 0,.int .i64 0,.int .i64 0,.int .i64 0] 65::As) _
  by_cases hlt:(k:Int) < (n:Int)
  ·have hk4:k=0∨k=1∨k=2∨k=3:=by omega
   rcases hk4 with rfl|rfl|rfl|rfl
   ·show Tri _ _ _ _ [(2,.int .i64 (n:Int)),(6,.pointer (some ⟨b6,0,none⟩)),(7,.pointer (some ⟨b7,0,none⟩)),(8,.pointer (some ⟨b8,0,none⟩)),(9,.int .i64 0)] (.ow (cI .i64) 3 v []::.cl b7 [.string ⟨([112]++nmI).toArray⟩,v,.int .i64 0,.int .i64 0,.int .i64 0] 65::.cl b8 [.int .i16 x0,.int .i16 x1,.int .i16 x2,.int .i16 x3,.int .i16 x4,.int .i16 x5,.int .i16 x6] 243::.cl b6 [.string ⟨#[]⟩,.slice none 0 0,.int .i64 0,.int .i64 0,.int .i64 0] 65::As) _
    by_cases hneg:x0 < 0
    ·have hdv:-x0 % 9 * 1250=devD x0:=by unfold devD;omega
     repeat' first|refine Kz ?_|intro _
     rw [hdv]
     rename_i v7
     exact Post.round (1,v7) (by show 1≤n;omega) (by show n - 1 < n - 0;omega) (by show Go.Sx.Sub _ [(2,.int .i64 (n:Int)),(6,.pointer (some ⟨b6,0,none⟩)),(7,.pointer (some ⟨b7,0,none⟩)),(8,.pointer (some ⟨b8,0,none⟩)),(9,.int .i64 1)];(exact Zad)) (by show Ents _ (.ow (cI .i64) 3 v7 ([]++[devD x0])::.cl b7 [.string ⟨([112]++nmI).toArray⟩,v7,.int .i64 0,.int .i64 0,.int .i64 0] 65::.cl b8 [.int .i16 x0,.int .i16 x1,.int .i16 x2,.int .i16 x3,.int .i16 x4,.int .i16 x5,.int .i16 x6] 243::.cl b6 [.string ⟨#[]⟩,.slice none 0 0,.int .i64 0,.int .i64 0,.int .i64 0] 65::As);(exact Zaa))
    ·have hdv:x0 % 9 * 1250=devD x0:=by unfold devD;omega
     repeat' first|refine Kz ?_|intro _
     rw [hdv]
     rename_i v7
     exact Post.round (1,v7) (by show 1≤n;omega) (by show n - 1 < n - 0;omega) (by show Go.Sx.Sub _ [(2,.int .i64 (n:Int)),(6,.pointer (some ⟨b6,0,none⟩)),(7,.pointer (some ⟨b7,0,none⟩)),(8,.pointer (some ⟨b8,0,none⟩)),(9,.int .i64 1)];(exact Zad)) (by show Ents _ (.ow (cI .i64) 3 v7 ([]++[devD x0])::.cl b7 [.string ⟨([112]++nmI).toArray⟩,v7,.int .i64 0,.int .i64 0,.int .i64 0] 65::.cl b8 [.int .i16 x0,.int .i16 x1,.int .i16 x2,.int .i16 x3,.int .i16 x4,.int .i16 x5,.int .i16 x6] 243::.cl b6 [.string ⟨#[]⟩,.slice none 0 0,.int .i64 0,.int .i64 0,.int .i64 0] 65::As);(exact Zaa))
   ·show Tri _ _ _ _ [(2,.int .i64 (n:Int)),(6,.pointer (some ⟨b6,0,none⟩)),(7,.pointer (some ⟨b7,0,none⟩)),(8,.pointer (some ⟨b8,0,none⟩)),(9,.int .i64 1)] (.ow (cI .i64) 3 v [devD x0]::.cl b7 [.string ⟨([112]++nmI).toArray⟩,v,.int .i64 0,.int .i64 0,.int .i64 0] 65::.cl b8 [.int .i16 x0,.int .i16 x1,.int .i16 x2,.int .i16 x3,.int .i16 x4,.int .i16 x5,.int .i16 x6] 243::.cl b6 [.string ⟨#[]⟩,.slice none 0 0,.int .i64 0,.int .i64 0,.int .i64 0] 65::As) _
    by_cases hneg:x1 < 0
    ·have hdv:-x1 % 9 * 1250=devD x1:=by unfold devD;omega
     repeat' first|refine Kz ?_|intro _
     rw [hdv]
     rename_i v7
     exact Post.round (2,v7) (by show 2≤n;omega) (by show n - 2 < n - 1;omega) (by show Go.Sx.Sub _ [(2,.int .i64 (n:Int)),(6,.pointer (some ⟨b6,0,none⟩)),(7,.pointer (some ⟨b7,0,none⟩)),(8,.pointer (some ⟨b8,0,none⟩)),(9,.int .i64 2)];(exact Zad)) (by show Ents _ (.ow (cI .i64) 3 v7 ([devD x0]++[devD x1])::.cl b7 [.string ⟨([112]++nmI).toArray⟩,v7,.int .i64 0,.int .i64 0,.int .i64 0] 65::.cl b8 [.int .i16 x0,.int .i16 x1,.int .i16 x2,.int .i16 x3,.int .i16 x4,.int .i16 x5,.int .i16 x6] 243::.cl b6 [.string ⟨#[]⟩,.slice none 0 0,.int .i64 0,.int .i64 0,.int .i64 0] 65::As);(exact Zaa))
    ·have hdv:x1 % 9 * 1250=devD x1:=by unfold devD;omega
     repeat' first|refine Kz ?_|intro _
     rw [hdv]
     rename_i v7
     exact Post.round (2,v7) (by show 2≤n;omega) (by show n - 2 < n - 1;omega) (by show Go.Sx.Sub _ [(2,.int .i64 (n:Int)),(6,.pointer (some ⟨b6,0,none⟩)),(7,.pointer (some ⟨b7,0,none⟩)),(8,.pointer (some ⟨b8,0,none⟩)),(9,.int .i64 2)];(exact Zad)) (by show Ents _ (.ow (cI .i64) 3 v7 ([devD x0]++[devD x1])::.cl b7 [.string ⟨([112]++nmI).toArray⟩,v7,.int .i64 0,.int .i64 0,.int .i64 0] 65::.cl b8 [.int .i16 x0,.int .i16 x1,.int .i16 x2,.int .i16 x3,.int .i16 x4,.int .i16 x5,.int .i16 x6] 243::.cl b6 [.string ⟨#[]⟩,.slice none 0 0,.int .i64 0,.int .i64 0,.int .i64 0] 65::As);(exact Zaa))
   ·show Tri _ _ _ _ [(2,.int .i64 (n:Int)),(6,.pointer (some ⟨b6,0,none⟩)),(7,.pointer (some ⟨b7,0,none⟩)),(8,.pointer (some ⟨b8,0,none⟩)),(9,.int .i64 2)] (.ow (cI .i64) 3 v [devD x0,devD x1]::.cl b7 [.string ⟨([112]++nmI).toArray⟩,v,.int .i64 0,.int .i64 0,.int .i64 0] 65::.cl b8 [.int .i16 x0,.int .i16 x1,.int .i16 x2,.int .i16 x3,.int .i16 x4,.int .i16 x5,.int .i16 x6] 243::.cl b6 [.string ⟨#[]⟩,.slice none 0 0,.int .i64 0,.int .i64 0,.int .i64 0] 65::As) _
    by_cases hneg:x2 < 0
    ·have hdv:-x2 % 9 * 1250=devD x2:=by unfold devD;omega
     repeat' first|refine Kz ?_|intro _
     rw [hdv]
     rename_i v7
     exact Post.round (3,v7) (by show 3≤n;omega) (by show n - 3 < n - 2;omega) (by show Go.Sx.Sub _ [(2,.int .i64 (n:Int)),(6,.pointer (some ⟨b6,0,none⟩)),(7,.pointer (some ⟨b7,0,none⟩)),(8,.pointer (some ⟨b8,0,none⟩)),(9,.int .i64 3)];(exact Zad)) (by show Ents _ (.ow (cI .i64) 3 v7 ([devD x0,devD x1]++[devD x2])::.cl b7 [.string ⟨([112]++nmI).toArray⟩,v7,.int .i64 0,.int .i64 0,.int .i64 0] 65::.cl b8 [.int .i16 x0,.int .i16 x1,.int .i16 x2,.int .i16 x3,.int .i16 x4,.int .i16 x5,.int .i16 x6] 243::.cl b6 [.string ⟨#[]⟩,.slice none 0 0,.int .i64 0,.int .i64 0,.int .i64 0] 65::As);(exact Zaa))
    ·have hdv:x2 % 9 * 1250=devD x2:=by unfold devD;omega
     repeat' first|refine Kz ?_|intro _
     rw [hdv]
     rename_i v7
     exact Post.round (3,v7) (by show 3≤n;omega) (by show n - 3 < n - 2;omega) (by show Go.Sx.Sub _ [(2,.int .i64 (n:Int)),(6,.pointer (some ⟨b6,0,none⟩)),(7,.pointer (some ⟨b7,0,none⟩)),(8,.pointer (some ⟨b8,0,none⟩)),(9,.int .i64 3)];(exact Zad)) (by show Ents _ (.ow (cI .i64) 3 v7 ([devD x0,devD x1]++[devD x2])::.cl b7 [.string ⟨([112]++nmI).toArray⟩,v7,.int .i64 0,.int .i64 0,.int .i64 0] 65::.cl b8 [.int .i16 x0,.int .i16 x1,.int .i16 x2,.int .i16 x3,.int .i16 x4,.int .i16 x5,.int .i16 x6] 243::.cl b6 [.string ⟨#[]⟩,.slice none 0 0,.int .i64 0,.int .i64 0,.int .i64 0] 65::As);(exact Zaa))
   ·show Tri _ _ _ _ [(2,.int .i64 (n:Int)),(6,.pointer (some ⟨b6,0,none⟩)),(7,.pointer (some ⟨b7,0,none⟩)),(8,.pointer (some ⟨b8,0,none⟩)),(9,.int .i64 3)] (.ow (cI .i64) 3 v [devD x0,devD x1,devD x2]::.cl b7 [.string ⟨([112]++nmI).toArray⟩,v,.int .i64 0,.int .i64 0,.int .i64 0] 65::.cl b8 [.int .i16 x0,.int .i16 x1,.int .i16 x2,.int .i16 x3,.int .i16 x4,.int .i16 x5,.int .i16 x6] 243::.cl b6 [.string ⟨#[]⟩,.slice none 0 0,.int .i64 0,.int .i64 0,.int .i64 0] 65::As) _
    by_cases hneg:x3 < 0
    ·have hdv:-x3 % 9 * 1250=devD x3:=by unfold devD;omega
     repeat' first|refine Kz ?_|intro _
     rw [hdv]
     rename_i v7
     exact Post.round (4,v7) (by show 4≤n;omega) (by show n - 4 < n - 3;omega) (by show Go.Sx.Sub _ [(2,.int .i64 (n:Int)),(6,.pointer (some ⟨b6,0,none⟩)),(7,.pointer (some ⟨b7,0,none⟩)),(8,.pointer (some ⟨b8,0,none⟩)),(9,.int .i64 4)];(exact Zad)) (by show Ents _ (.ow (cI .i64) 3 v7 ([devD x0,devD x1,devD x2]++[devD x3])::.cl b7 [.string ⟨([112]++nmI).toArray⟩,v7,.int .i64 0,.int .i64 0,.int .i64 0] 65::.cl b8 [.int .i16 x0,.int .i16 x1,.int .i16 x2,.int .i16 x3,.int .i16 x4,.int .i16 x5,.int .i16 x6] 243::.cl b6 [.string ⟨#[]⟩,.slice none 0 0,.int .i64 0,.int .i64 0,.int .i64 0] 65::As);(exact Zaa))
    ·have hdv:x3 % 9 * 1250=devD x3:=by unfold devD;omega
     repeat' first|refine Kz ?_|intro _
     rw [hdv]
     rename_i v7
     exact Post.round (4,v7) (by show 4≤n;omega) (by show n - 4 < n - 3;omega) (by show Go.Sx.Sub _ [(2,.int .i64 (n:Int)),(6,.pointer (some ⟨b6,0,none⟩)),(7,.pointer (some ⟨b7,0,none⟩)),(8,.pointer (some ⟨b8,0,none⟩)),(9,.int .i64 4)];(exact Zad)) (by show Ents _ (.ow (cI .i64) 3 v7 ([devD x0,devD x1,devD x2]++[devD x3])::.cl b7 [.string ⟨([112]++nmI).toArray⟩,v7,.int .i64 0,.int .i64 0,.int .i64 0] 65::.cl b8 [.int .i16 x0,.int .i16 x1,.int .i16 x2,.int .i16 x3,.int .i16 x4,.int .i16 x5,.int .i16 x6] 243::.cl b6 [.string ⟨#[]⟩,.slice none 0 0,.int .i64 0,.int .i64 0,.int .i64 0] 65::As);(exact Zaa))
  ·obtain rfl:k=n:=by omega
   repeat' first|refine Kz ?_|intro _
   exact Post.cut _ _ ⟨v,rfl,rfl⟩ Zad Zaa
 rintro _ _ ⟨v,rfl,rfl⟩
 have hD0:(([x0,x1,x2,x3,x4,x5,x6]:List Int).take n).map devD≠[]:=by
  obtain ⟨m,rfl⟩:∃ m,n=m+1:=⟨n - 1,by omega⟩
  simp
 generalize ((([x0,x1,x2,x3,x4,x5,x6]:List Int).take n).map devD)=D at *
 refine Stp.h ?_
 refine Tri.open v (xs:=D) hD0 fun b0 off0 cap0 _ hv=>?_
 subst hv
 repeat' first|refine Kz ?_|intro _
 (refine Zac ?_)
 exact ⟨_,⟨⟨[112]++nmI,some ⟨b0,off0,none⟩,cap0,D,5000+Int.tmod x4 5000,Int.tmod x5 12700,Int.tmod x6 12700⟩,hpp,rfl,rfl⟩,Ents.trans (show Ents _ (.ow (cI .i64) 3 (.slice (some ⟨b0,off0,none⟩) D.length cap0) D::As) from Zaa) Ents.freeze⟩
end Go.Proofs.YtciadfpomkdlnaaGreatDoor.Q
namespace Go.Proofs.YtciadfpomkdlnaaGreatDoor.Q
open Go Go.Sx
variable {w0:World} {As:List Ent}
def patsD (n:Nat) (X:List W7) (k:Nat):List PP:=(X.take k).mapIdx (patD n)
def draftL (ch:Nat) (X:List W7):List PP:=if X=[] then [([112],List.replicate (1+ch % 4) 0,0,0,0)] else patsD (1+ch % 4) X 12
theorem Ztl {n k:Nat} {X:List W7} {x:W7} (h:X[k]?=some x):patsD n X (k+1)=patsD n X k++[patD n k x]:=by
 have hk:=(List.getElem?_eq_some_iff.1 h).1
 unfold patsD
 rw [List.take_add_one,h]
 simp only [Option.toList_some]
 rw [List.mapIdx_append]
 simp only [List.length_take,Nat.min_eq_left (Nat.le_of_lt hk)]
 show _++[patD n (0+k) x]=_
 rw [Nat.zero_add]
set_option maxRecDepth 100000 in
set_option maxHeartbeats 800000 in
theorem Zel (ht:Tab w0) {ch:Nat} {lv:Value} {X:List W7} [hr:RdIn As lv W7 c7 X] (hok:∀ x∈X,x.ok) (hch:ch≤255) :
  CallsS Tryz.prog w0 23 [.agg #[.int .u8 (ch:Int),lv]] As fun u Bs=>∃ L:List RawP,L.map ppOf=draftL ch X∧Bs=.ow cPt 65 u L::.ft (devPF L)::As:=by
 refine Zbh lv fun hlv=>?_
 refine Zab Tryz.func23 rfl Tryz.ntmps23 rfl ?_
 obtain ⟨n,hn⟩:∃ n,1+ch % 4=n:=⟨_,rfl⟩
 have hn4:1≤n∧n≤4:=by omega
 have hcm:1+(ch:Int) % 4=(n:Int):=by omega
 repeat' first|refine Kz ?_|intro _
 rw [hcm]
 rename_i b1
 refine Tri.midB (fun e' As'=>∃ (v:Value) (L:List RawP),(L.map ppOf=patsD n X 12)∧e'=[(3,.int .i64 (n:Int)),(4,v)]∧As'=.ow cPt 65 v L::.ft (devPF L)::As) ?_ ?_
 ·refine Tri.loop (ι:=Nat × Value × List RawP) (fun x=>(x.1≤X.length∧x.1≤12)∧x.2.2.map ppOf=patsD n X x.1) (fun x=>12 - x.1) (fun x=>[(1,.pointer (some ⟨b1,0,none⟩)),(3,.int .i64 (n:Int)),(4,x.2.1),(5,.int .i64 (x.1:Int))]) (fun x=>.cl b1 [.int .u8 (ch:Int),lv] 55::.ow cPt 65 x.2.1 x.2.2::.ft (devPF x.2.2)::As) (0,.slice none 0 0,[]) ⟨⟨Nat.zero_le _,Nat.zero_le _⟩,rfl⟩
   (by show Go.Sx.Sub _ [(1,.pointer (some ⟨b1,0,none⟩)),(3,.int .i64 (n:Int)),(4,.slice none 0 0),(5,.int .i64 0)];(exact Zad)) (Ents.trans Zb0 (Ents.trans (Zav (T:=65) cPt) (by show Ents _ (.cl b1 [.int .u8 (ch:Int),lv] 55::.ow cPt 65 (.slice none 0 0) []::.ft (devPF [])::As);(exact Zaa)))) ?_
  rintro ⟨k,v,L⟩ ⟨⟨hk,hk12⟩,hL⟩
  simp only at hk hk12 hL
  show Tri _ _ _ _ [(1,.pointer (some ⟨b1,0,none⟩)),(3,.int .i64 (n:Int)),(4,v),(5,.int .i64 (k:Int))] (.cl b1 [.int .u8 (ch:Int),lv] 55::.ow cPt 65 v L::.ft (devPF L)::As) _
  have hLk:L.length=k:=by
   have:=congrArg List.length hL
   rw [List.length_map] at this
   rw [this];unfold patsD;rw [List.length_mapIdx,List.length_take];omega
  by_cases h1:(k:Int) < (X.length:Int)
  ·by_cases h2:(k:Int) < 12
   ·obtain ⟨x,hx⟩:∃ x,X[k]?=some x:=⟨_,List.getElem?_eq_getElem (by omega)⟩
    have hxo:=hok x (List.mem_of_getElem? hx)
    have hsn:=Ztl (n:=n) hx
    repeat' first|refine Kz ?_|intro _
    refine TL.callv rfl rfl rfl rfl (Z2e ht hx hxo hn4 (by omega)) ?_
    rintro _ _ ⟨r,hr1,rfl,rfl⟩
    obtain ⟨nm,p,c,dev,l,a,b⟩:=r
    simp only
    repeat' first|refine Kz ?_|intro _
    rename_i v7
    refine Post.round (k+1,v7,L++[⟨nm,p,c,dev,l,a,b⟩]) ⟨⟨by show k+1≤X.length;omega,by show k+1≤12;omega⟩,?_⟩ (by show 12 - (k+1) < 12 - k;omega) (by show Go.Sx.Sub _ [(1,.pointer (some ⟨b1,0,none⟩)),(3,.int .i64 (n:Int)),(4,v7),(5,.int .i64 ((k+1:Nat):Int))];(exact Zad)) ?_
    ·show (L++[_]).map ppOf=patsD n X (k+1)
     rw [List.map_append,hL,hsn,← hr1]
     rfl
    ·refine Ents.trans (show Ents _ (.ft (rd (cI .i64) (.slice p dev.length c) dev)::.ft (devPF L)::.cl b1 [.int .u8 (ch:Int),lv] 55::.ow cPt 65 v7 (L++[⟨nm,p,c,dev,l,a,b⟩])::As) from Zaa) ?_
     refine Ents.trans (Zey (r:=⟨nm,p,c,dev,l,a,b⟩)) ?_
     show Ents _ (.cl b1 [.int .u8 (ch:Int),lv] 55::.ow cPt 65 v7 (L++[⟨nm,p,c,dev,l,a,b⟩])::.ft (devPF (L++[⟨nm,p,c,dev,l,a,b⟩]))::As)
     (exact Zaa)
   ·obtain rfl:k=12:=by omega
    repeat' first|refine Kz ?_|intro _
    exact Post.cut _ _ ⟨v,L,hL,rfl,rfl⟩ Zad Zaa
  ·have hkX:k=X.length:=by omega
   have hL2:L.map ppOf=patsD n X 12:=by
    rw [hL];unfold patsD;rw [hkX,List.take_of_length_le (Nat.le_refl _),List.take_of_length_le (by omega)]
   repeat' first|refine Kz ?_|intro _
   exact Post.cut _ _ ⟨v,L,hL2,rfl,rfl⟩ Zad Zaa
 rintro _ _ ⟨v,L,hL,rfl,rfl⟩
 have hLe:L.length=0↔X=[]:=by
  have:=congrArg List.length hL
  rw [List.length_map] at this
  rw [this];unfold patsD;rw [List.length_mapIdx,List.length_take]
  constructor
  ·intro h;exact List.eq_nil_of_length_eq_zero (by omega)
  ·intro h;rw [h];rfl
 by_cases h0:(L.length:Int)=0
 ·have hX0:=hLe.1 (by omega)
  have hd:draftL ch X=[([112],List.replicate n 0,0,0,0)]:=by unfold draftL;rw [if_pos hX0,hn]
  repeat' first|refine Kz ?_|intro _
  rename_i v33
  refine TL.ents (Zkz (c:=cN .i64) (c':=cI .i64) (f:=fun x:Nat=>(x:Int)) rfl (fun _=>rfl)) ?_
  rw [List.map_replicate]
  have hne:List.replicate n ((0:Nat):Int)≠[]:=by
   obtain ⟨m,rfl⟩:∃ m,n=m+1:=⟨n - 1,by omega⟩
   simp
  refine TL.open v33 (xs:=List.replicate n ((0:Nat):Int)) hne fun b0 off0 cap0 _ hv=>?_
  subst hv
  refine TL.f rfl rfl (ExF.build (l:=[.string ⟨([112]:List UInt8).toArray⟩,.slice (some ⟨b0,off0,none⟩) (List.replicate n ((0:Nat):Int)).length cap0,.int .i64 0,.int .i64 0,.int .i64 0]) rfl (fun w=>by kernel_rfl)) ?_
  repeat' first|refine Kz ?_|intro _
  rename_i b9
  (refine Zac ?_)
  refine ⟨_,⟨[⟨[112],some ⟨b0,off0,none⟩,cap0,List.replicate n ((0:Nat):Int),0,0,0⟩],by rw [hd];rfl,rfl⟩,?_⟩
  refine Ents.trans (Zaz (As:=_) cPt [⟨[112],some ⟨b0,off0,none⟩,cap0,List.replicate n ((0:Nat):Int),0,0,0⟩] rfl rfl rfl) ?_
  refine Ents.trans Zb0 ?_
  refine Ents.trans (show Ents _ (.ow (cI .i64) 3 (.slice (some ⟨b0,off0,none⟩) (List.replicate n ((0:Nat):Int)).length cap0) (List.replicate n ((0:Nat):Int))::.ft (devPF [])::.ow cPt 65 (.slice (some ⟨b9,0,none⟩) 1 1) [⟨[112],some ⟨b0,off0,none⟩,cap0,List.replicate n ((0:Nat):Int),0,0,0⟩]::As) from Zaa) ?_
  refine Ents.trans Ents.freeze ?_
  refine Ents.trans (Zey (r:=⟨[112],some ⟨b0,off0,none⟩,cap0,List.replicate n ((0:Nat):Int),0,0,0⟩)) ?_
  show Ents _ (.ow cPt 65 (.slice (some ⟨b9,0,none⟩) 1 1) [⟨[112],some ⟨b0,off0,none⟩,cap0,List.replicate n ((0:Nat):Int),0,0,0⟩]::.ft (devPF ([]++[⟨[112],some ⟨b0,off0,none⟩,cap0,List.replicate n ((0:Nat):Int),0,0,0⟩]))::As)
  (exact Zaa)
 ·have hd:draftL ch X=patsD n X 12:=by unfold draftL;rw [if_neg (fun h=>h0 (by have:=hLe.2 h;omega)),hn]
  repeat' first|refine Kz ?_|intro _
  (refine Zac ?_)
  exact ⟨_,⟨L,by rw [hL,hd],rfl⟩,Zaa⟩
end Go.Proofs.YtciadfpomkdlnaaGreatDoor.Q
namespace Go.Sx
open Go
section
variable {P:Program} {N:Ctx} {w0 w:World} {e:Env} {As:List Ent} {ty t:TypeId} {x:Operand} {l r:List UInt8} {lo hi:Nat}
theorem Zcm {a b:Option Operand} [UL P t .string] (hx:ev e x=some (.string ⟨l.toArray⟩)) (hl:evLo e a lo) (hh:evHi e l.length b hi) (h1:lo≤hi) (h2:hi≤l.length) (hr:(l.drop lo).take (hi - lo)=r) :
  ExF P N w0 (.slice t x a b none) ty e As (.string ⟨r.toArray⟩):=by
 unfold ExF
 intro ac w ha hs d pos af g
 have h3:(⟨l.toArray⟩:ByteArray).extract lo hi=⟨((l.drop lo).take (hi - lo)).toArray⟩:=Lib.extract_eq _ lo hi
 have hsz:(⟨l.toArray⟩:ByteArray).size=l.length:=size_toArray l
 have hrun:∀ (lo' hi':Option Value),((lo'=none∧lo=0)∨∃ k,lo'=some (.int k (lo:Int)))→((hi'=none∧hi=l.length)∨∃ k,hi'=some (.int k (hi:Int)))→(Instr.sliceAt t (.string ⟨l.toArray⟩) lo' hi' none).run P w=.ok (.string ⟨((l.drop lo).take (hi - lo)).toArray⟩) w:=by
  intro lo' hi' hl hh
  rcases hl with ⟨rfl,rfl⟩|⟨k,rfl⟩<;>rcases hh with ⟨rfl,rfl⟩|⟨k',rfl⟩<;>simp only [Instr.sliceAt,Instr.slice,Instr.sliceBounds,Instr.sliceBound,asIntOf,Sem.run_bind,Zak,Result.andThen_ok,hsz]<;>simp [h1,h2,h3]
 rw [← hr]
 simp [execOp,ha.eval hx,hrun _ _ (hl.run ha) (hh.run ha)]
end
end Go.Sx
namespace Go.Proofs.YtciadfpomkdlnaaGreatDoor.Q
open Go Go.Sx
variable {w0:World} {As:List Ent}
end Go.Proofs.YtciadfpomkdlnaaGreatDoor.Q
namespace Go.Proofs.YtciadfpomkdlnaaGreatDoor.Q
open Go Go.Sx
theorem Zje {n:Int} {p:Nat} (hn:-99999≤n∧n≤99999) (hp:p≤4):(decT n p).length≤7:=by
 have h1:(Lib.decDigits n.natAbs).length≤5:=by rw [Zat];exact Zbc (by decide) (Nat.lt_of_le_of_lt (show n.natAbs≤99999 by omega) (by decide))
 unfold decT decU
 have h2:(padS (Lib.decDigits n.natAbs) p).length≤5:=by unfold padS;rw [List.length_append,List.length_replicate];omega
 generalize padS (Lib.decDigits n.natAbs) p=u at h2 ⊢
 have h3:=(Zgw (l:=u.drop (u.length - p)) (c:=48)).2
 rw [List.length_drop] at h3
 rw [List.length_append]
 split<;>split<;>simp only [List.length_append,List.length_take,List.length_cons,List.length_nil]<;>omega
theorem Zor:∀ {d:List Int},(∀ v∈d,0≤v∧v≤10000)→(devT d).length≤8 * d.length
 | [],_=>by simp [devT]
 | v::r,h=>by
  have h1:=h v (List.mem_cons_self ..)
  have h2:=Zje (n:=v) (p:=4) (by omega) (by decide)
  have h3:=Zor (d:=r) fun x hx=>h x (List.mem_cons_of_mem _ hx)
  have e:devT (v::r)=(32::decT v 4)++devT r:=by unfold devT;rw [List.flatMap_cons]
  rw [e,List.length_append,List.length_cons,List.length_cons]
  omega
theorem Zg4 {p:PP} (h:soundP p=true):(rowT p).length≤70:=by
 obtain ⟨h1,h2,h3,h4⟩:=Z3v.1 h
 have h5:=(Z4d.1 h1).1
 have h6:=Zor h3
 have g1:=Zje (n:=p.2.2.1) (p:=2) (by omega) (by decide)
 have g2:=Zje (n:=p.2.2.2.1) (p:=2) (by omega) (by decide)
 have g3:=Zje (n:=p.2.2.2.2) (p:=2) (by omega) (by decide)
 rw [Zpy]
 have e:labT p.2.2.1 p.2.2.2.1 p.2.2.2.2 3=(32::decT p.2.2.1 2)++((32::decT p.2.2.2.1 2)++((32::decT p.2.2.2.2 2)++[])):=rfl
 rw [e]
 simp only [List.length_append,List.length_cons,List.length_nil]
 omega
theorem Zle:∀ {l:List PP},(∀ p∈l,soundP p=true)→(l.flatMap rowT).length≤70 * l.length
 | [],_=>by simp
 | p::r,h=>by
  have h1:=Zg4 (h p (List.mem_cons_self ..))
  have h2:=Zle (l:=r) fun q hq=>h q (List.mem_cons_of_mem _ hq)
  rw [List.flatMap_cons,List.length_append,List.length_cons]
  omega
theorem Zcb {l:List PP} (h:checkP l=true):(textT l).length≤3000:=by
 obtain ⟨h1,h2,h3⟩:=Zw9.1 h
 have hs:∀ p∈l,soundP p=true:=fun p hp=>(h3.sound p hp).1
 have hr:=Zle hs
 have hd:(Lib.decDigits (l.headD ([],[],0,0,0)).2.1.length).length≤5:=by
  cases l with
  | nil=>exact absurd rfl h1
  | cons p r =>
   have:=(Z3v.1 (hs p (List.mem_cons_self ..))).2.1.2
   rw [Zat]
   exact Zbc (by decide) (Nat.lt_of_le_of_lt (show p.2.1.length≤4 from this) (by decide))
 unfold textT headT
 simp only [List.length_append,List.length_cons,List.length_nil]
 have e1:wPatches.length=7:=rfl
 have e2:wEnd.length=3:=rfl
 omega
theorem Z2p (v:Int):0≤devD v∧devD v≤10000:=by unfold devD;omega
theorem Zvt {n i:Nat} {x:W7} (hn:1≤n∧n≤4) (hi:i < 12):soundP (patD n i x)=true∧(patD n i x).2.1.length=n:=by
 have hl:(patD n i x).2.1.length=n:=by
  show ((x.l.take n).map devD).length=n
  rw [List.length_map,List.length_take]
  show min n 7=n
  omega
 have hnm:∀ j:Nat,j < 12→namedP (112::textI (j:Int))=true:=by decide +kernel
 have t1:=Zmh (x:=x.e) (m:=5000) (by decide)
 have t2:=Zmh (x:=x.f) (m:=12700) (by decide)
 have t3:=Zmh (x:=x.g) (m:=12700) (by decide)
 refine ⟨Z3v.2 ⟨hnm i hi,by rw [hl];exact hn,fun v hv=>?_,?_⟩,hl⟩
 ·obtain ⟨y,_,rfl⟩:=List.mem_map.1 (show v∈(x.l.take n).map devD from hv)
  exact Z2p y
 ·show 0≤5000+Int.tmod x.e 5000∧5000+Int.tmod x.e 5000≤10000∧-12800≤Int.tmod x.f 12700∧Int.tmod x.f 12700≤12700∧-12800≤Int.tmod x.g 12700∧Int.tmod x.g 12700≤12700
  omega
theorem Zeo {ch:Nat} {X:List W7}:checkP (draftL ch X)=true:=by
 have hn:1≤1+ch % 4∧1+ch % 4≤4:=by omega
 unfold draftL
 generalize 1+ch % 4=n at hn ⊢
 by_cases hX:X=[]
 ·rw [if_pos hX]
  obtain h|h|h|h:n=1∨n=2∨n=3∨n=4:=by omega
  all_goals (subst h;decide +kernel)
 ·rw [if_neg hX]
  have hlen:(patsD n X 12).length=min 12 X.length:=by unfold patsD;rw [List.length_mapIdx,List.length_take]
  have hX0:0 < X.length:=by cases X with
   | nil=>exact absurd rfl hX
   | cons a b=>simp
  have hat:∀ i (h:i < (patsD n X 12).length),∃ x,(patsD n X 12)[i]=patD n i x:=fun i h=>by
   have h1:(patsD n X 12)[i]?=Option.map (patD n i) (X.take 12)[i]?:=List.getElem?_mapIdx
   rw [List.getElem?_eq_getElem h] at h1
   cases hx:(X.take 12)[i]? with
   | none=>rw [hx] at h1;cases h1
   | some x=>rw [hx] at h1;exact ⟨x,Option.some.inj h1⟩
  have hmem:∀ p∈patsD n X 12,soundP p=true∧p.2.1.length=n:=fun p hp=>by
   obtain ⟨i,hi,rfl⟩:=List.getElem_of_mem hp
   obtain ⟨x,hx⟩:=hat i hi
   rw [hx]
   exact Zvt hn (by omega)
  have hhd:((patsD n X 12).headD ([],[],0,0,0)).2.1.length=n:=by
   cases hq:patsD n X 12 with
   | nil=>rw [hq] at hlen;simp at hlen;omega
   | cons p r=>exact (hmem p (by rw [hq];exact List.mem_cons_self ..)).2
  refine Zw9.2 ⟨fun h=>by rw [h] at hlen;simp at hlen;omega,by omega,?_⟩
  rw [hhd]
  refine ⟨hmem,?_⟩
  rw [List.Nodup,List.pairwise_iff_getElem]
  intro i j hi hj hij
  rw [List.length_map] at hi hj
  rw [List.getElem_map,List.getElem_map]
  obtain ⟨x,hx⟩:=hat i hi
  obtain ⟨y,hy⟩:=hat j hj
  rw [hx,hy]
  have hne:∀ a:Nat,a < 12→∀ b:Nat,b < 12→a≠b→(112::textI (a:Int):List UInt8)≠112::textI (b:Int):=by decide +kernel
  exact hne i (by omega) j (by omega) (by omega)
end Go.Proofs.YtciadfpomkdlnaaGreatDoor.Q
