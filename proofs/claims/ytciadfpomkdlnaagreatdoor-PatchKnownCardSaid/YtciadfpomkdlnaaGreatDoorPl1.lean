/- Walks: the law on measured patches: one, reads, refuses, the examples. -/
import Derived.Test.YtciadfpomkdlnaaGreatDoorPwb
import Derived.Test.YtciadfpomkdlnaaGreatDoorVa1
set_option maxHeartbeats 1000000
namespace Go.Proofs.YtciadfpomkdlnaaGreatDoor.Q
open Go Go.Sx
variable {w0:World} {As:List Ent}
theorem Za6 {nm:List UInt8} {p:Option Addr} {n c:Nat} {l a b:Int}:CQ Tryz.prog w0 33 [.string ⟨nm.toArray⟩,.agg #[.int .i64 l,.int .i64 a,.int .i64 b],.slice p n c] As (.agg #[.string ⟨nm.toArray⟩,.slice p n c,.int .i64 l,.int .i64 a,.int .i64 b]):=by
 refine Zab Tryz.func33 rfl Tryz.ntmps33 rfl ?_
 repeat' first|refine Kz ?_|intro _
 exact Kv
theorem Zvv {s:List UInt8} {L:List RawP} (h:L.map ppOf=(parseT s).1):Fwd L:=by
 cases hp:parseT s with
 | mk l r =>
  obtain ⟨k,e⟩:=r
  rw [hp] at h
  simp only at h
  by_cases h0:e=0
  ·subst h0
   obtain ⟨_,h1,h2⟩:=Zxb.1 (Zgj hp).2
   rw [← h] at h1 h2
   refine ⟨by rw [List.length_map] at h1;omega,fun r hr=>?_⟩
   have:=(Z33.1 (h2.sound (ppOf r) (List.mem_map_of_mem hr)).1).2.1.2
   exact Nat.le_trans this (by decide)
  ·have:=(Zhw hp h0).1
   rw [this] at h
   have hL:L=[]:=List.map_eq_nil_iff.1 h
   subst hL
   exact ⟨Nat.zero_le _,fun r hr=>by cases hr⟩
theorem Zfq (ht:Tab w0) (he:ErrR w0) (hm:LenR w0) {s:List UInt8} {v:Value} {L:List RawP} [hr:RdIn As v RawP cPt L] (dL:DevIn As L) (fL:Fwd L) (hs:s.length≤1000000000) :
  CQ Tryz.prog w0 32 [.string ⟨s.toArray⟩,v] As (.bool (decide ((parseT s).1=L.map ppOf∧(parseT s).2.1=0∧(parseT s).2.2=0))):=by
 refine Zab Tryz.func32 rfl Tryz.ntmps32 rfl ?_
 repeat' first|refine Kz ?_|intro _
 refine TL.callv rfl rfl rfl rfl (Zfr ht he hm hs) ?_
 rintro _ _ ⟨v',L',h1,rfl,rfl⟩
 repeat' first|refine Kz ?_|intro _
 refine Ks rfl (Zix (v:=v') (A:=L') (B:=L) (fun r hr=>Zc5 (L:=L') (by simp) r hr) (dL.tl.tl) (Zvv h1) fL) ?_
 rw [h1]
 generalize parseT s=R
 obtain ⟨r1,r2,r3⟩:=R
 simp only
 by_cases k1:r1=L.map ppOf
 ·by_cases k2:(r2:Int)=0
  ·by_cases k3:r3=0
   ·repeat' first|refine Kz ?_|intro _
    (refine Zac ?_)
    exact ⟨_,⟨by simp [k1,k3];try omega,rfl⟩,Zaa⟩
   ·repeat' first|refine Kz ?_|intro _
    (refine Zac ?_)
    exact ⟨_,⟨by simp [k1,k3],rfl⟩,Zaa⟩
  ·repeat' first|refine Kz ?_|intro _
   (refine Zac ?_)
   exact ⟨_,⟨by rw [decide_eq_false (fun h=>k2 (by omega))],rfl⟩,Zaa⟩
 ·repeat' first|refine Kz ?_|intro _
  (refine Zac ?_)
  exact ⟨_,⟨by rw [decide_eq_false (fun h=>k1 h.1)],rfl⟩,Zaa⟩
theorem Zap (ht:Tab w0) (he:ErrR w0) (hm:LenR w0) {s:List UInt8} {n:Nat} {e:Int} (hs:s.length≤1000000000) :
  CQ Tryz.prog w0 38 [.string ⟨s.toArray⟩,.int .i64 (n:Int),.int .i64 e] As (.bool (decide ((parseT s).1.length=0∧(parseT s).2.1=n∧(parseT s).2.2=e))):=by
 refine Zab Tryz.func38 rfl Tryz.ntmps38 rfl ?_
 repeat' first|refine Kz ?_|intro _
 refine TL.callv rfl rfl rfl rfl (Zfr ht he hm hs) ?_
 rintro _ _ ⟨v',L',h1,rfl,rfl⟩
 have hl:L'.length=(parseT s).1.length:=by rw [← h1,List.length_map]
 generalize parseT s=R at h1 hl ⊢
 obtain ⟨r1,r2,r3⟩:=R
 simp only at hl ⊢
 repeat' first|refine Kz ?_|intro _
 refine TL.f rfl rfl (Zfi (v:=v') rfl) ?_
 by_cases k1:(L'.length:Int)=0
 ·by_cases k2:(r2:Int)=(n:Int)
  ·by_cases k3:r3=e
   ·repeat' first|refine Kz ?_|intro _
    (refine Zac ?_)
    exact ⟨_,⟨by congr 1;rw [decide_eq_decide];exact ⟨fun h=>⟨by omega,by omega,h⟩,fun h=>h.2.2⟩,rfl⟩,Zaa⟩
   ·repeat' first|refine Kz ?_|intro _
    (refine Zac ?_)
    exact ⟨_,⟨by congr 1;rw [decide_eq_decide];exact ⟨fun h=>⟨by omega,by omega,h⟩,fun h=>h.2.2⟩,rfl⟩,Zaa⟩
  ·repeat' first|refine Kz ?_|intro _
   (refine Zac ?_)
   exact ⟨_,⟨by rw [decide_eq_false (fun h=>k2 (by omega))],rfl⟩,Zaa⟩
 ·repeat' first|refine Kz ?_|intro _
  (refine Zac ?_)
  exact ⟨_,⟨by rw [decide_eq_false (fun h=>k1 (by omega))],rfl⟩,Zaa⟩
theorem Z4f {L:List RawP} {l:List PP} (h:L.map ppOf=l) (h2:(decide (l.length≤1000)&&l.all fun p=>decide (p.2.1.length≤1000))=true):Fwd L:=by
 rw [Bool.and_eq_true,decide_eq_true_eq,List.all_eq_true] at h2
 subst h
 refine ⟨by have:=h2.1;rw [List.length_map] at this;omega,fun r hr=>?_⟩
 have:=of_decide_eq_true (h2.2 (ppOf r) (List.mem_map_of_mem hr))
 exact Nat.le_trans this (by decide)
set_option maxRecDepth 100000 in
set_option maxHeartbeats 2000000 in
theorem Zhp (ht:Tab w0) (he:ErrR w0) (hm:LenR w0):CQ Tryz.prog w0 22 [] As (.bool true):=by
 refine Zab Tryz.func22 rfl Tryz.ntmps22 rfl ?_
 repeat' first|refine Kz ?_|intro _
 rename_i bA
 refine TL.ents (Zaj (cI .i64) [0,5000] rfl rfl rfl) ?_
 refine TL.ents Ents.freeze ?_
 refine Ks rfl Za6 ?_
 repeat' first|refine Kz ?_|intro _
 rename_i bL1
 refine TL.ents (Zaj cPt [⟨[65],some ⟨bA,0,none⟩,2,[0,5000],5000,(-300),225⟩] rfl rfl rfl) ?_
 refine TL.callv rfl rfl rfl rfl (Zfq ht he hm (s:=[112,97,116,99,104,101,115,32,50,10,65,32,48,32,48,46,53,32,53,48,32,45,51,32,50,46,50,53,10,101,110,100,10]) (L:=[⟨[65],some ⟨bA,0,none⟩,2,[0,5000],5000,(-300),225⟩]) (fun r hr=>?_) ⟨Nat.le_of_ble_eq_true rfl,fun r hr=>?_⟩ (by decide)) ?_
 ·rw [List.mem_singleton.1 hr];infer_instance
 ·rw [List.mem_singleton.1 hr];exact Nat.le_of_ble_eq_true rfl
 rintro _ _ ⟨rfl,rfl⟩
 rw [decide_eq_true (show (parseT [112,97,116,99,104,101,115,32,50,10,65,32,48,32,48,46,53,32,53,48,32,45,51,32,50,46,50,53,10,101,110,100,10]).1=List.map ppOf [⟨[65],some ⟨bA,0,none⟩,2,[0,5000],5000,(-300),225⟩]∧_∧_ from (show (parseT [112,97,116,99,104,101,115,32,50,10,65,32,48,32,48,46,53,32,53,48,32,45,51,32,50,46,50,53,10,101,110,100,10]).1=[([65],[0,5000],5000,(-300),225)]∧(parseT [112,97,116,99,104,101,115,32,50,10,65,32,48,32,48,46,53,32,53,48,32,45,51,32,50,46,50,53,10,101,110,100,10]).2.1=0∧(parseT [112,97,116,99,104,101,115,32,50,10,65,32,48,32,48,46,53,32,53,48,32,45,51,32,50,46,50,53,10,101,110,100,10]).2.2=0 by decide +kernel))]
 repeat' first|refine Kz ?_|intro _
 rename_i bL2
 refine TL.ents (Zaj cPt [⟨[65],some ⟨bA,0,none⟩,2,[0,5000],5000,(-300),225⟩] rfl rfl rfl) ?_
 refine TL.callv rfl rfl rfl rfl (Zfq ht he hm (s:=[35,32,120,10,10,112,97,116,99,104,101,115,32,50,10,32,65,32,32,48,9,48,46,53,48,32,53,48,46,48,48,32,45,51,32,50,46,50,53,10,101,110,100]) (L:=[⟨[65],some ⟨bA,0,none⟩,2,[0,5000],5000,(-300),225⟩]) (fun r hr=>?_) ⟨Nat.le_of_ble_eq_true rfl,fun r hr=>?_⟩ (by decide)) ?_
 ·rw [List.mem_singleton.1 hr];infer_instance
 ·rw [List.mem_singleton.1 hr];exact Nat.le_of_ble_eq_true rfl
 rintro _ _ ⟨rfl,rfl⟩
 rw [decide_eq_true (show (parseT [35,32,120,10,10,112,97,116,99,104,101,115,32,50,10,32,65,32,32,48,9,48,46,53,48,32,53,48,46,48,48,32,45,51,32,50,46,50,53,10,101,110,100]).1=List.map ppOf [⟨[65],some ⟨bA,0,none⟩,2,[0,5000],5000,(-300),225⟩]∧_∧_ from (show (parseT [35,32,120,10,10,112,97,116,99,104,101,115,32,50,10,32,65,32,32,48,9,48,46,53,48,32,53,48,46,48,48,32,45,51,32,50,46,50,53,10,101,110,100]).1=[([65],[0,5000],5000,(-300),225)]∧(parseT [35,32,120,10,10,112,97,116,99,104,101,115,32,50,10,32,65,32,32,48,9,48,46,53,48,32,53,48,46,48,48,32,45,51,32,50,46,50,53,10,101,110,100]).2.1=0∧(parseT [35,32,120,10,10,112,97,116,99,104,101,115,32,50,10,32,65,32,32,48,9,48,46,53,48,32,53,48,46,48,48,32,45,51,32,50,46,50,53,10,101,110,100]).2.2=0 by decide +kernel))]
 repeat' first|refine Kz ?_|intro _
 refine Ks rfl (Zap ht he hm (s:=[112,97,116,99,104,101,115,32,50,10,65,32,48,32,48,46,53,32,53,48,32,45,51,10,101,110,100,10]) (n:=2) (e:=5) (by decide)) ?_
 rw [decide_eq_true (by decide +kernel)]
 repeat' first|refine Kz ?_|intro _
 refine Ks rfl (Zap ht he hm (s:=[112,97,116,99,104,101,115,32,53,10,101,110,100,10]) (n:=1) (e:=5) (by decide)) ?_
 rw [decide_eq_true (by decide +kernel)]
 repeat' first|refine Kz ?_|intro _
 refine Ks rfl (Zap ht he hm (s:=[112,97,116,99,104,101,115,32,49,10,65,32,49,46,48,48,48,48,49,32,53,48,32,48,32,48,10,101,110,100,10]) (n:=2) (e:=5) (by decide)) ?_
 rw [decide_eq_true (by decide +kernel)]
 repeat' first|refine Kz ?_|intro _
 refine Ks rfl (Zap ht he hm (s:=[112,97,116,99,104,101,115,32,49,10,65,32,49,32,53,48,32,48,32,48,10,65,32,48,32,53,48,32,48,32,48,10,101,110,100,10]) (n:=3) (e:=5) (by decide)) ?_
 rw [decide_eq_true (by decide +kernel)]
 repeat' first|refine Kz ?_|intro _
 refine Ks rfl (Zap ht he hm (s:=[112,97,116,99,104,101,115,32,49,10,101,110,100,10]) (n:=0) (e:=5) (by decide)) ?_
 rw [decide_eq_true (by decide +kernel)]
 repeat' first|refine Kz ?_|intro _
 refine Ks rfl (Zap ht he hm (s:=[112,97,116,99,104,101,115,32,49,10,65,32,49,32,53,48,32,48,32,48,10]) (n:=0) (e:=5) (by decide)) ?_
 rw [decide_eq_true (by decide +kernel)]
 repeat' first|refine Kz ?_|intro _
 rename_i bB
 refine TL.ents (Zaj (cI .i64) [0] rfl rfl rfl) ?_
 refine TL.ents Ents.freeze ?_
 refine Ks rfl Za6 ?_
 repeat' first|refine Kz ?_|intro _
 rename_i bC
 refine TL.ents (Zaj (cI .i64) [10000] rfl rfl rfl) ?_
 refine TL.ents Ents.freeze ?_
 refine Ks rfl Za6 ?_
 repeat' first|refine Kz ?_|intro _
 rename_i bD
 refine TL.ents (Zaj (cI .i64) [0] rfl rfl rfl) ?_
 refine TL.ents Ents.freeze ?_
 refine Ks rfl Za6 ?_
 repeat' first|refine Kz ?_|intro _
 rename_i bM
 refine TL.ents (Zaj cPt [⟨[65],some ⟨bB,0,none⟩,1,[0],5000,0,0⟩,⟨[66],some ⟨bC,0,none⟩,1,[10000],4000,0,0⟩,⟨[67],some ⟨bD,0,none⟩,1,[0],5001,100,(-100)⟩] rfl rfl rfl) ?_
 refine TL.callv rfl rfl rfl rfl (Zr1 ht he (L:=[⟨[65],some ⟨bB,0,none⟩,1,[0],5000,0,0⟩,⟨[66],some ⟨bC,0,none⟩,1,[10000],4000,0,0⟩,⟨[67],some ⟨bD,0,none⟩,1,[0],5001,100,(-100)⟩]) (fun r hr=>?_) ⟨Nat.le_of_ble_eq_true rfl,fun r hr=>?_⟩) ?_
 ·simp only [List.mem_cons,List.not_mem_nil,or_false] at hr
  rcases hr with rfl|rfl|rfl<;>infer_instance
 ·simp only [List.mem_cons,List.not_mem_nil,or_false] at hr
  rcases hr with rfl|rfl|rfl<;>exact Nat.le_of_ble_eq_true rfl
 rintro _ _ ⟨vm,Lm,h1,rfl,rfl⟩
 have hmo:mergeO (List.map ppOf [⟨[65],some ⟨bB,0,none⟩,1,[0],5000,0,0⟩,⟨[66],some ⟨bC,0,none⟩,1,[10000],4000,0,0⟩,⟨[67],some ⟨bD,0,none⟩,1,[0],5001,100,(-100)⟩])=([([65],[0],5001,50,(-50)),([66],[10000],4000,0,0)],0):=(show mergeO [([65],[0],5000,0,0),([66],[10000],4000,0,0),([67],[0],5001,100,(-100))]=_ by decide +kernel)
 rw [hmo] at h1 ⊢
 simp only at h1
 repeat' first|refine Kz ?_|intro _
 rename_i bE
 refine TL.ents (Zaj (cI .i64) [0] rfl rfl rfl) ?_
 refine TL.ents Ents.freeze ?_
 refine Ks rfl Za6 ?_
 repeat' first|refine Kz ?_|intro _
 rename_i bF
 refine TL.ents (Zaj (cI .i64) [10000] rfl rfl rfl) ?_
 refine TL.ents Ents.freeze ?_
 refine Ks rfl Za6 ?_
 repeat' first|refine Kz ?_|intro _
 rename_i bN
 refine TL.ents (Zaj cPt [⟨[65],some ⟨bE,0,none⟩,1,[0],5001,50,(-50)⟩,⟨[66],some ⟨bF,0,none⟩,1,[10000],4000,0,0⟩] rfl rfl rfl) ?_
 refine TL.callv rfl rfl rfl rfl (Zix (v:=vm) (A:=Lm) (B:=[⟨[65],some ⟨bE,0,none⟩,1,[0],5001,50,(-50)⟩,⟨[66],some ⟨bF,0,none⟩,1,[10000],4000,0,0⟩]) (fun r hr=>Zc5 (L:=Lm) (by simp) r hr) (fun r hr=>?_) (Z4f h1 (by decide)) ⟨Nat.le_of_ble_eq_true rfl,fun r hr=>?_⟩) ?_
 ·simp only [List.mem_cons,List.not_mem_nil,or_false] at hr
  rcases hr with rfl|rfl<;>infer_instance
 ·simp only [List.mem_cons,List.not_mem_nil,or_false] at hr
  rcases hr with rfl|rfl<;>exact Nat.le_of_ble_eq_true rfl
 rintro _ _ ⟨rfl,rfl⟩
 rw [decide_eq_true (show List.map ppOf Lm=List.map ppOf [⟨[65],some ⟨bE,0,none⟩,1,[0],5001,50,(-50)⟩,⟨[66],some ⟨bF,0,none⟩,1,[10000],4000,0,0⟩] from h1)]
 repeat' first|refine Kz ?_|intro _
 (refine Zac ?_)
 exact ⟨_,⟨rfl,rfl⟩,(show Ents _ _ from Zaa)⟩
end Go.Proofs.YtciadfpomkdlnaaGreatDoor.Q
namespace Go.Sx
open Go
structure W7 where
 a:Int
 b:Int
 c:Int
 d:Int
 e:Int
 f:Int
 g:Int
def W7.cells (x:W7):List Value:=[.int .i16 x.a,.int .i16 x.b,.int .i16 x.c,.int .i16 x.d,.int .i16 x.e,.int .i16 x.f,.int .i16 x.g]
def W7.l (x:W7):List Int:=[x.a,x.b,x.c,x.d,x.e,x.f,x.g]
def W7.ok (x:W7):Prop:=∀ v∈x.l,-32768≤v∧v≤32767
def c7:Cod W7:=⟨7,W7.cells,fun _=>rfl,fun x v hv=>by
 simp only [W7.cells,List.mem_cons,List.not_mem_nil,or_false] at hv
 rcases hv with rfl|rfl|rfl|rfl|rfl|rfl|rfl<;>rfl⟩
instance {a b c d e f g:Int}:EncL c7 ⟨a,b,c,d,e,f,g⟩ [.int .i16 a,.int .i16 b,.int .i16 c,.int .i16 d,.int .i16 e,.int .i16 f,.int .i16 g]:=⟨rfl⟩
end Go.Sx
namespace Go.Proofs.YtciadfpomkdlnaaGreatDoor.Q
open Go Go.Sx
variable {w0:World} {As:List Ent}
end Go.Proofs.YtciadfpomkdlnaaGreatDoor.Q
namespace Go.Proofs.YtciadfpomkdlnaaGreatDoor.Q
open Go Go.Sx
variable {w0:World} {As:List Ent}
end Go.Proofs.YtciadfpomkdlnaaGreatDoor.Q
namespace Go.Sx
open Go
section
variable {P:Program} {N:Ctx} {w0 w:World} {e:Env} {As:List Ent} {ty t:TypeId} {x:Operand} {l r:List UInt8} {lo hi:Nat}
end
end Go.Sx
namespace Go.Proofs.YtciadfpomkdlnaaGreatDoor.Q
open Go Go.Sx
variable {w0:World} {As:List Ent}
end Go.Proofs.YtciadfpomkdlnaaGreatDoor.Q
namespace Go.Proofs.YtciadfpomkdlnaaGreatDoor.Q
open Go Go.Sx
theorem Zjd {n:Int} {p:Nat} (hn:-99999≤n∧n≤99999) (hp:p≤4):(decT n p).length≤7:=by
 have h1:(Lib.decDigits n.natAbs).length≤5:=by rw [Zaw];exact Zbg (by decide) (Nat.lt_of_le_of_lt (show n.natAbs≤99999 by omega) (by decide))
 unfold decT decU
 have h2:(padS (Lib.decDigits n.natAbs) p).length≤5:=by unfold padS;rw [List.length_append,List.length_replicate];omega
 generalize padS (Lib.decDigits n.natAbs) p=u at h2 ⊢
 have h3:=(Zgs (l:=u.drop (u.length - p)) (c:=48)).2
 rw [List.length_drop] at h3
 rw [List.length_append]
 split<;>split<;>simp only [List.length_append,List.length_take,List.length_cons,List.length_nil]<;>omega
theorem Zot:∀ {d:List Int},(∀ v∈d,0≤v∧v≤10000)→(devT d).length≤8 * d.length
 | [],_=>by simp [devT]
 | v::r,h=>by
  have h1:=h v (List.mem_cons_self ..)
  have h2:=Zjd (n:=v) (p:=4) (by omega) (by decide)
  have h3:=Zot (d:=r) fun x hx=>h x (List.mem_cons_of_mem _ hx)
  have e:devT (v::r)=(32::decT v 4)++devT r:=by unfold devT;rw [List.flatMap_cons]
  rw [e,List.length_append,List.length_cons,List.length_cons]
  omega
theorem Zgz {p:PP} (h:soundP p=true):(rowT p).length≤70:=by
 obtain ⟨h1,h2,h3,h4⟩:=Z33.1 h
 have h5:=(Z4l.1 h1).1
 have h6:=Zot h3
 have g1:=Zjd (n:=p.2.2.1) (p:=2) (by omega) (by decide)
 have g2:=Zjd (n:=p.2.2.2.1) (p:=2) (by omega) (by decide)
 have g3:=Zjd (n:=p.2.2.2.2) (p:=2) (by omega) (by decide)
 rw [Zpx]
 have e:labT p.2.2.1 p.2.2.2.1 p.2.2.2.2 3=(32::decT p.2.2.1 2)++((32::decT p.2.2.2.1 2)++((32::decT p.2.2.2.2 2)++[])):=rfl
 rw [e]
 simp only [List.length_append,List.length_cons,List.length_nil]
 omega
theorem Zlh:∀ {l:List PP},(∀ p∈l,soundP p=true)→(l.flatMap rowT).length≤70 * l.length
 | [],_=>by simp
 | p::r,h=>by
  have h1:=Zgz (h p (List.mem_cons_self ..))
  have h2:=Zlh (l:=r) fun q hq=>h q (List.mem_cons_of_mem _ hq)
  rw [List.flatMap_cons,List.length_append,List.length_cons]
  omega
theorem Zbo {l:List PP} (h:checkP l=true):(textT l).length≤3000:=by
 obtain ⟨h1,h2,h3⟩:=Zxb.1 h
 have hs:∀ p∈l,soundP p=true:=fun p hp=>(h3.sound p hp).1
 have hr:=Zlh hs
 have hd:(Lib.decDigits (l.headD ([],[],0,0,0)).2.1.length).length≤5:=by
  cases l with
  | nil=>exact absurd rfl h1
  | cons p r =>
   have:=(Z33.1 (hs p (List.mem_cons_self ..))).2.1.2
   rw [Zaw]
   exact Zbg (by decide) (Nat.lt_of_le_of_lt (show p.2.1.length≤4 from this) (by decide))
 unfold textT headT
 simp only [List.length_append,List.length_cons,List.length_nil]
 have e1:wPatches.length=7:=rfl
 have e2:wEnd.length=3:=rfl
 omega
end Go.Proofs.YtciadfpomkdlnaaGreatDoor.Q
