/- Walks: strings. -/
import Derived.Test.YtciadfpomkdlnaaGreatDoorCc3
import Derived.Test.YtciadfpomkdlnaaGreatDoorSxP
set_option maxHeartbeats 1000000
namespace Go.Sx
open Go
def digS (s:List UInt8):Bool:=!s.isEmpty&&s.all fun c=>decide (48≤c.toNat)&&decide (c.toNat≤57)
theorem Zm8 {s:List UInt8}:digS s=true↔s≠[]∧∀ c∈s,48≤c.toNat∧c.toNat≤57:=by
 unfold digS
 simp [List.all_eq_true]
end Go.Sx
namespace Go.Proofs.YtciadfpomkdlnaaGreatDoor
open Go Go.Sx
variable {w0:World} {As:List Ent}
theorem Zbv {c:Nat} (hc:c≤1000000000):CallsS Tryz.prog w0 37 [.string ⟨#[48]⟩,.int .i64 (c:Int)] As fun u Bs=>u=.string ⟨(List.replicate c (48:UInt8)).toArray⟩∧Bs=As :=
 CallsS.mk fun w hs=>(Tryz.strings_Repeat ⟨#[48]⟩ c w (by omega) (by show 1 * c≤_;omega)).mono fun en w' ⟨h1,h2⟩=>by
  refine ⟨_,As,h1,⟨?_,rfl⟩,hs.below h2⟩
  have:Lib.repeatL [48] c=List.replicate c (48:UInt8):=by
   have:=Lib.repeatL_replicate 48 1 c
   rwa [Nat.mul_one] at this
  rw [← this]
theorem Ziw {s:List UInt8} (hl:s.length≤4000000000):CallsS Tryz.prog w0 85 [.string ⟨s.toArray⟩,.string ⟨#[48]⟩] As fun u Bs=>u=.string ⟨(Lib.trimB s 48).toArray⟩∧Bs=As :=
 CallsS.mk fun w hs=>(Tryz.strings_Trim_one ⟨s.toArray⟩ 48 (by decide) w (by show s.toArray.size≤_;simp;omega)).mono fun en w' ⟨h1,h2⟩=>by
  refine ⟨_,As,h1,⟨rfl,rfl⟩,?_⟩
  rcases h2 with rfl|rfl
  ·exact hs
  ·exact hs.drewN (n:=1)
def LenR (w:World):Prop:=∃ m,w.cell? ⟨0,0,none⟩=some (.int .i64 m)
theorem LenR.keep {w:World} (he:LenR w0) (h:St w0 w As):LenR w:=by
 obtain ⟨ev,h1⟩:=he
 refine ⟨ev,?_⟩
 simp only [World.cell?] at h1 ⊢
 cases ho:w0.heap[0]? with
 | none=>rw [ho] at h1;cases h1
 | some o=>rw [St.old h ho];rw [ho] at h1;exact h1
theorem Z2z (hm:LenR w0) {s:List UInt8} (hl:s.length≤1000000000):CallsS Tryz.prog w0 83 [.string ⟨s.toArray⟩,.string ⟨#[46]⟩] As fun u Bs=>u=.tuple #[.string ⟨(Lib.cut s [46]).1.toArray⟩,.string ⟨(Lib.cut s [46]).2.1.toArray⟩,.bool (Lib.cut s [46]).2.2]∧Bs=As :=
 CallsS.mk fun w hs=>by
  obtain ⟨m,h0⟩:=hm.keep hs
  refine (Tryz.strings_Cut ⟨s.toArray⟩ ⟨#[46]⟩ m w (by show s.toArray.size < _;simp;omega) h0).mono fun en w' ⟨h1,n,h2⟩=>?_
  exact ⟨_,As,h1,⟨rfl,rfl⟩,by rw [h2];exact hs.drewN⟩
end Go.Proofs.YtciadfpomkdlnaaGreatDoor
namespace Go.Proofs.YtciadfpomkdlnaaGreatDoor.Q
open Go Go.Sx
variable {w0:World} {As:List Ent}
theorem Zms {s:List UInt8} (hl:s.length≤1000000000):CQ Tryz.prog w0 84 [.string ⟨s.toArray⟩] As (.bool (digS s)):=by
 refine Zab Tryz.func84 rfl Tryz.ntmps84 rfl ?_
 repeat' first|refine Kz ?_|intro _
 refine TL.rb rfl rfl (Zo8 rfl) ?_
 intro br
 repeat' first|refine Kz ?_|intro _
 refine Tri.midB (fun e' As'=>∃ i:Nat,i≤s.length∧(digS s=true↔0 < i∧i=s.length)∧e'=[(0,.string ⟨s.toArray⟩),(3,.int .i64 (i:Int))]∧As'=As) ?_ ?_
 ·refine Tri.loop (ι:=Nat) (fun i=>i≤s.length∧∀ c∈s.take i,48≤c.toNat∧c.toNat≤57) (fun i=>s.length - i) (fun i=>[(0,.string ⟨s.toArray⟩),(3,.int .i64 (i:Int)),(7,.pointer (some ⟨br,0,none⟩))])
   (fun i=>.ob br (.stringIter ⟨s.toArray⟩ i)::As) 0 ⟨Nat.zero_le _,by simp⟩ Zad Zaa ?_
  rintro i ⟨hi,hd⟩
  have hsz:(⟨s.toArray⟩:ByteArray).size=s.length:=rfl
  repeat' first|refine Kz ?_|intro _
  refine Zqy rfl rfl (Zq7 rfl) ?_
  rintro _ _ (⟨h1,rfl,rfl⟩|⟨h1,rfl,rfl⟩)
  ·rw [hsz] at h1
   repeat' first|refine Kz ?_|intro _
   have e:s.take i=s:=List.take_of_length_le h1
   rw [e] at hd
   refine Post.cut _ _ ⟨i,hi,?_,rfl,rfl⟩ Zad Zaa
   rw [Zm8]
   constructor
   ·rintro ⟨h2,_⟩
    have:s.length≠0:=fun h=>h2 (List.length_eq_zero_iff.1 h)
    omega
   ·rintro ⟨h2,h3⟩
    exact ⟨fun h=>by rw [h] at h3;simp at h3;omega,hd⟩
  ·rw [hsz] at h1
   have hb:(⟨s.toArray⟩:ByteArray)[i]'h1=s[i]'h1:=rfl
   have hA:48≤(s[i]'h1).toNat∧(s[i]'h1).toNat≤57→Utf8.decode ⟨s.toArray⟩ i=((s[i]'h1).toNat,1):=fun h=>Go.decode_ascii ⟨s.toArray⟩ i h1 (by rw [hb];omega)
   have hB:48≤(Utf8.decode ⟨s.toArray⟩ i).1∧(Utf8.decode ⟨s.toArray⟩ i).1≤57→(Utf8.decode ⟨s.toArray⟩ i).1=(s[i]'h1).toNat∧(Utf8.decode ⟨s.toArray⟩ i).2=1:=fun h=>by
    by_cases ha:(s[i]'h1).toNat < 128
    ·rw [Go.decode_ascii ⟨s.toArray⟩ i h1 ha];exact ⟨rfl,rfl⟩
    ·have:=(Go.decode_high ⟨s.toArray⟩ i h1 (by rw [hb];omega)).1
     omega
   have hA1:48≤(s[i]'h1).toNat∧(s[i]'h1).toNat≤57→(Utf8.decode ⟨s.toArray⟩ i).1=(s[i]'h1).toNat:=fun h=>by rw [hA h]
   clear hA
   generalize (Utf8.decode ⟨s.toArray⟩ i).1=r at hA1 hB ⊢
   generalize (Utf8.decode ⟨s.toArray⟩ i).2=k at hB ⊢
   have hno:¬ (48≤r∧r≤57)→(digS s=true↔0 < i∧i=s.length):=fun h=>by
    constructor
    ·intro hs
     have h3:=(Zm8.1 hs).2 (s[i]'h1) (List.getElem_mem h1)
     rw [hA1 h3] at h
     exact absurd h3 h
    ·rintro ⟨_,h2⟩;omega
   have hyes:48≤r∧r≤57→∀ c∈s.take (i+1),48≤c.toNat∧c.toNat≤57:=fun h c hc=>by
    rw [List.take_succ_eq_append_getElem h1,List.mem_append,List.mem_singleton] at hc
    rcases hc with hc|hc
    ·exact hd c hc
    ·rw [hc,← (hB h).1];exact h
   clear hA1
   by_cases h2:(r:Int) < 48
   ·repeat' first|refine Kz ?_|intro _
    exact Post.cut _ _ ⟨i,hi,hno (by omega),rfl,rfl⟩ Zad Zaa
   ·by_cases h3:(57:Int) < r
    ·repeat' first|refine Kz ?_|intro _
     exact Post.cut _ _ ⟨i,hi,hno (by omega),rfl,rfl⟩ Zad Zaa
    ·obtain ⟨-,rfl⟩:=hB (by omega)
     repeat' first|refine Kz ?_|intro _
     exact Post.round (i+1) ⟨h1,hyes (by omega)⟩ (by omega) Zad Zaa
 rintro _ _ ⟨i,hi,hd,rfl,rfl⟩
 by_cases h1:(0:Int) < i
 ·by_cases h2:(i:Int)=s.length
  ·have:digS s=true:=hd.2 (by omega)
   rw [this]
   repeat' first|refine Kz ?_|intro _
   (refine Zac ?_)
   exact ⟨_,⟨by rw [decide_eq_true h2],rfl⟩,Zaa⟩
  ·have:digS s=false:=by rw [← Bool.not_eq_true,hd];omega
   rw [this]
   repeat' first|refine Kz ?_|intro _
   (refine Zac ?_)
   exact ⟨_,⟨by rw [decide_eq_false h2],rfl⟩,Zaa⟩
 ·have:digS s=false:=by rw [← Bool.not_eq_true,hd];omega
  rw [this]
  repeat' first|refine Kz ?_|intro _
  exact Kv
end Go.Proofs.YtciadfpomkdlnaaGreatDoor.Q
namespace Go.Sx
open Go
def dotS (t:List UInt8) (p:Nat):List UInt8:=t.take (t.length - p)++[46]++t.drop (t.length - p)
def padS (t:List UInt8) (p:Nat):List UInt8:=List.replicate (p+1 - t.length) 48++t
def fixT (z:Int) (p:Nat):List UInt8 :=
 (if z < 0 then [45] else [])++(if 0 < p then dotS (padS (Lib.decDigits z.natAbs) p) p else Lib.decDigits z.natAbs)
theorem Zgv {p:Nat}:numOf (49::List.replicate p (48:UInt8))=10 ^ p:=by
 induction p with
 | zero=>rfl
 | succ p ih =>
  rw [List.replicate_succ',← List.cons_append,Zbx,ih,Nat.pow_succ]
  rfl
theorem Zen {p:Nat}:∀ c∈49::List.replicate p (48:UInt8),isDig c=true:=by
 intro c hc
 rw [List.mem_cons,List.mem_replicate] at hc
 rcases hc with rfl|⟨_,rfl⟩<;>decide
end Go.Sx
namespace Go.Proofs.YtciadfpomkdlnaaGreatDoor.Q
open Go Go.Sx
variable {w0:World} {As:List Ent}
end Go.Proofs.YtciadfpomkdlnaaGreatDoor.Q
