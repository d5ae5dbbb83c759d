/- Plain: what strings. -/
import Derived.Test.YtciadfpomkdlnaaGreatDoorPp1
import Derived.Lib.FieldsP
import Derived.Lib.SplitLaws
import Derived.Lib.DecodeN
import Derived.Lib.SpaceUEq
import Derived.Test.YtciadfpomkdlnaaGreatDoorPw5
set_option maxHeartbeats 1000000
namespace Go.Proofs.YtciadfpomkdlnaaGreatDoor.Q
open Go Go.Sx
theorem Zhe (c:UInt8) (l:List UInt8):Lib.index (c::l) [10]=if c=10 then 0 else if Lib.index l [10] == -1 then -1 else Lib.index l [10]+1:=by
 rw [Lib.index]
 by_cases h:c=10
 ·subst h;simp [List.isPrefixOf]
 ·have:([10]:List UInt8).isPrefixOf (c::l)=false:=by simp [List.isPrefixOf,Ne.symm h]
  rw [this,if_neg h];simp
theorem Zcn {p:List (List UInt8)}:stepL 10 p=[]::p:=if_pos rfl
theorem Zb8 {c:UInt8} {x:List UInt8} {t:List (List UInt8)} (h:c≠10):stepL c (x::t)=(c::x)::t:=if_neg h
theorem Zgd:∀ l:List UInt8,Lib.splitK [10] 0 (Lib.count l [10]) l=linesL l
 | []=>by rw [Lib.count_one];rfl
 | c :: l=>by
  have ih:=Zgd l
  have hL:linesL (c::l)=stepL c (linesL l):=rfl
  by_cases h:c=10
  ·subst h
   rw [Lib.count_cons_eq,Nat.add_comm,Lib.splitK,Zhe,if_pos rfl,hL,Zcn,← ih]
   rfl
  ·rw [Lib.count_cons_ne c 10 l h]
   cases hk:Lib.count l [10] with
   | zero =>
    rw [hk] at ih
    rw [hL,← ih]
    exact (Zb8 h).symm
   | succ j =>
    rw [hk] at ih
    have hne:Lib.index l [10]≠-1:=fun e=>by rw [Lib.count_miss e] at hk;cases hk
    have hge:=Lib.index_ge l [10]
    obtain ⟨i,hi⟩:∃ i:Nat,Lib.index l [10]=i:=⟨(Lib.index l [10]).toNat,by omega⟩
    have hb:¬ ((Lib.index l [10] == -1)=true):=fun e=>hne (eq_of_beq e)
    rw [Lib.splitK,if_neg hb,hi] at ih
    have hix:Lib.index (c::l) [10]=((i+1:Nat):Int):=by rw [Zhe,if_neg h,if_neg hb,hi];omega
    have hb2:¬ ((Lib.index (c::l) [10] == -1)=true):=fun e=>by have:=eq_of_beq e;omega
    rw [Lib.splitK,if_neg hb2,hix,hL,← ih,Zb8 h]
    rfl
theorem Ze3 {l:List UInt8}:Lib.splitB ⟨#[10]⟩ 0 (Lib.countB ⟨l.toArray⟩ ⟨#[10]⟩) ⟨l.toArray⟩=(linesL l).map fun x=>(⟨x.toArray⟩:ByteArray):=by
 have h:=Lib.splitB_data ⟨#[10]⟩ 0 (Lib.countB ⟨l.toArray⟩ ⟨#[10]⟩) ⟨l.toArray⟩
 have h2:Lib.countB ⟨l.toArray⟩ ⟨#[10]⟩=Lib.count l [10]:=rfl
 rw [h2] at h ⊢
 have h3:Lib.splitK [10] 0 (Lib.count l [10]) l=linesL l:=Zgd l
 have h4:(Lib.splitB ⟨#[10]⟩ 0 (Lib.count l [10]) ⟨l.toArray⟩).map (·.data.toList)=linesL l:=h.trans h3
 rw [← h4,List.map_map]
 have:((fun x:List UInt8=>(⟨x.toArray⟩:ByteArray)) ∘ fun x:ByteArray=>x.data.toList)=id:=by funext ⟨⟨x⟩⟩;rfl
 rw [this,List.map_id]
theorem Zc1 {l:List UInt8}:Lib.countB ⟨l.toArray⟩ ⟨#[10]⟩+1=(linesL l).length:=by
 have h:=Lib.splitB_all ⟨#[10]⟩ (by decide) 0 _ ⟨l.toArray⟩ rfl
 rw [Ze3,List.length_map] at h
 exact h.symm
/-! ### words -/
def blR (r:Nat):Bool:=r == 32||r == 9
theorem getB {l:List UInt8} {i:Nat} (h:i < l.length):(⟨l.toArray⟩:ByteArray).get! i=l[i]:=by
 simp [ByteArray.get!,h]
theorem Zwk {b:UInt8} (h:128≤b.toNat):isBl b=false:=by
 unfold isBl
 rw [Bool.or_eq_false_iff]
 constructor <;>
 ·rw [beq_eq_false_iff_ne]
  rintro rfl
  revert h
  decide
theorem Zr8 {b:UInt8}:isBl b=blR b.toNat:=by
 have e:∀ n:Nat,n < 256→((b == UInt8.ofNat n)=(b.toNat == n)):=fun n hn=>by
  rw [Bool.eq_iff_iff,beq_iff_eq,beq_iff_eq,← UInt8.toNat_inj,UInt8.toNat_ofNat']
  rw [Nat.mod_eq_of_lt hn]
 unfold isBl blR
 rw [show (32:UInt8)=UInt8.ofNat 32 from rfl,show (9:UInt8)=UInt8.ofNat 9 from rfl,e 32 (by decide),e 9 (by decide)]
theorem Zz9 {l:List UInt8} {i:Nat} (h:i < l.length) :
  1≤(Utf8.decode ⟨l.toArray⟩ i).2∧i+(Utf8.decode ⟨l.toArray⟩ i).2≤l.length ∧
  (blR (Utf8.decode ⟨l.toArray⟩ i).1=true→(Utf8.decode ⟨l.toArray⟩ i).2=1∧isBl l[i]=true) ∧
  (blR (Utf8.decode ⟨l.toArray⟩ i).1=false→∀ j (hj:j < l.length),i≤j→j < i+(Utf8.decode ⟨l.toArray⟩ i).2→isBl l[j]=false):=by
 have hsz:(⟨l.toArray⟩:ByteArray).size=l.length:=by simp [ByteArray.size]
 rw [Lib.decode_at,hsz,getB h]
 have hc:=Lib.decodeN_cases (l.length - i) l[i].toNat ((⟨l.toArray⟩:ByteArray).get! (i+1)).toNat ((⟨l.toArray⟩:ByteArray).get! (i+2)).toNat ((⟨l.toArray⟩:ByteArray).get! (i+3)).toNat
 have hw:=Lib.decodeN_conts (l.length - i) l[i].toNat ((⟨l.toArray⟩:ByteArray).get! (i+1)).toNat ((⟨l.toArray⟩:ByteArray).get! (i+2)).toNat ((⟨l.toArray⟩:ByteArray).get! (i+3)).toNat
 have hg:=Lib.decodeN_ge1 (l.length - i) l[i].toNat ((⟨l.toArray⟩:ByteArray).get! (i+1)).toNat ((⟨l.toArray⟩:ByteArray).get! (i+2)).toNat ((⟨l.toArray⟩:ByteArray).get! (i+3)).toNat
 have hle:=Lib.decodeN_le_n' (l.length - i) l[i].toNat ((⟨l.toArray⟩:ByteArray).get! (i+1)).toNat ((⟨l.toArray⟩:ByteArray).get! (i+2)).toNat ((⟨l.toArray⟩:ByteArray).get! (i+3)).toNat (by omega)
 have hgj:∀ k,i+k < l.length→((⟨l.toArray⟩:ByteArray).get! (i+k)).toNat=(l[i+k]?.getD 0).toNat:=fun k hk=>by
  rw [getB hk,List.getElem?_eq_getElem hk];rfl
 refine ⟨hg,by omega,?_,?_⟩
 ·intro hb
  unfold blR at hb
  simp only [Bool.or_eq_true,beq_iff_eq] at hb
  rcases hc with ⟨c,e⟩|⟨c1,c2,c3,cv,e⟩|⟨c1,c2,c3,c4,cv,e⟩|⟨c,e⟩|e
  ·rw [e] at hb ⊢
   refine ⟨rfl,?_⟩
   rw [Zr8]
   unfold blR
   simp only [Bool.or_eq_true,beq_iff_eq]
   exact hb
  ·rw [e] at hb;simp only at hb;omega
  ·rw [e] at hb;simp only at hb;omega
  ·omega
  ·rw [e] at hb;simp only at hb;omega
 ·intro hb j hj h1 h2
  by_cases hji:j=i
  ·subst hji
   by_cases h128:128≤l[j].toNat
   ·exact Zwk h128
   ·rcases hc with ⟨c,e⟩|⟨c1,c2,c3,cv,e⟩|⟨c1,c2,c3,c4,cv,e⟩|⟨c,e⟩|e
    ·rw [e] at hb
     rw [Zr8];exact hb
    ·omega
    ·omega
    ·exfalso
     have:=hw.1 (by omega)
     revert e
     unfold Lib.decodeN
     rw [if_pos (by omega)]
     intro e
     cases e
    ·exfalso
     revert e
     unfold Lib.decodeN
     rw [if_pos (by omega)]
     intro e
     have:=(Prod.mk.inj e).1
     omega
  ·refine Zwk ?_
   obtain ⟨k,rfl⟩:∃ k,j=i+k:=⟨j - i,by omega⟩
   have hq:((⟨l.toArray⟩:ByteArray).get! (i+k)).toNat=l[i+k].toNat:=by rw [getB hj]
   have hk:k=1∨k=2∨k=3:=by have:=hw.2.2.2;omega
   rcases hk with rfl|rfl|rfl
   ·have:=(hw.1 (by omega)).1;omega
   ·have:=(hw.2.1 (by omega)).1;omega
   ·have:=(hw.2.2.1 (by omega)).1;omega
theorem Zt5 {l:List UInt8} {a b:Nat} (h1:a≤b):l.drop a=(l.drop a).take (b - a)++l.drop b:=by
 have:=(List.take_append_drop (b - a) (l.drop a)).symm
 rwa [List.drop_drop,Nat.add_sub_cancel' h1] at this
theorem Zpt {l:List UInt8}:∀ (f pos:Nat) (st:Option Nat) (acc:List (Nat × Nat)),l.length≤pos+f→pos≤l.length→(∀ a,st=some a→a < pos∧∀ j (hj:j < l.length),a≤j→j < pos→isBl l[j]=false) →
  (Lib.closeSpans ⟨l.toArray⟩ (Lib.spansFromP blR ⟨l.toArray⟩ f pos st acc)).map (fun x=>(l.drop x.1).take (x.2 - x.1))=acc.map (fun x=>(l.drop x.1).take (x.2 - x.1))++wordsL (l.drop (st.getD pos)):=by
 have hsz:(⟨l.toArray⟩:ByteArray).size=l.length:=by simp [ByteArray.size]
 have hend:∀ (f:Nat) (st:Option Nat) (acc:List (Nat × Nat)),(∀ a,st=some a→a < l.length∧∀ j (hj:j < l.length),a≤j→j < l.length→isBl l[j]=false) →
   (Lib.closeSpans ⟨l.toArray⟩ (Lib.spansFromP blR ⟨l.toArray⟩ f l.length st acc)).map (fun x=>(l.drop x.1).take (x.2 - x.1))=acc.map (fun x=>(l.drop x.1).take (x.2 - x.1))++wordsL (l.drop (st.getD l.length)):=fun f st acc hst=>by
  rw [Lib.spansFromP_end _ _ _ _ _ _ (by rw [hsz];omega)]
  cases st with
  | none =>
   show acc.map _=_++wordsL (l.drop l.length)
   rw [List.drop_length]
   exact (List.append_nil _).symm
  | some a =>
   obtain ⟨h1,h2⟩:=hst a rfl
   show (acc++[(a,(⟨l.toArray⟩:ByteArray).size)]).map _=_++wordsL (l.drop a)
   rw [List.map_append,hsz,Zjh (w:=l.drop a)]
   ·simp only [List.map_cons,List.map_nil]
    rw [List.take_of_length_le (by rw [List.length_drop];exact Nat.le_refl _)]
   ·intro h
    have:=congrArg List.length h
    rw [List.length_drop] at this
    simp at this
    omega
   ·intro c hc
    obtain ⟨j,hj,rfl⟩:=List.getElem_of_mem hc
    rw [List.getElem_drop]
    rw [List.length_drop] at hj
    exact h2 _ (by omega) (by omega) (by omega)
 intro f
 induction f with
 | zero =>
  intro pos st acc h hp hst
  obtain rfl:pos=l.length:=by omega
  exact hend 0 st acc hst
 | succ f ih =>
  intro pos st acc h hp hst
  by_cases hlt:pos < l.length
  ·obtain ⟨s1,s2,s3,s4⟩:=Zz9 hlt
   unfold Lib.spansFromP
   rw [if_pos (by rw [hsz];exact hlt)]
   generalize Utf8.decode ⟨l.toArray⟩ pos=dc at *
   obtain ⟨r,wd⟩:=dc
   simp only at s1 s2 s3 s4 ⊢
   have hcons:l.drop pos=l[pos]::l.drop (pos+1):=List.drop_eq_getElem_cons hlt
   cases hb:blR r with
   | true =>
    obtain ⟨rfl,hbl⟩:=s3 hb
    rw [if_pos rfl]
    cases st with
    | none =>
     simp only
     rw [ih (pos+1) none acc (by omega) (by omega) (fun a ha=>by cases ha)]
     show _++wordsL (l.drop (pos+1))=_++wordsL (l.drop pos)
     rw [hcons,Zf9 hbl]
    | some a =>
     obtain ⟨h1,h2⟩:=hst a rfl
     simp only
     rw [ih (pos+1) none _ (by omega) (by omega) (fun a ha=>by cases ha)]
     show _++wordsL (l.drop (pos+1))=_++wordsL (l.drop a)
     rw [List.map_append,List.append_assoc,Zt5 (l:=l) (a:=a) (b:=pos) (by omega),hcons]
     rw [Zns (w:=(l.drop a).take (pos - a)) ?_ ?_ hbl]
     ·rfl
     ·intro h
      have:=congrArg List.length h
      rw [List.length_take,List.length_drop] at this
      simp at this
      omega
     ·intro c hc
      obtain ⟨j,hj,rfl⟩:=List.getElem_of_mem hc
      rw [List.getElem_take,List.getElem_drop]
      rw [List.length_take,List.length_drop] at hj
      exact h2 _ (by omega) (by omega) (by omega)
   | false =>
    have hn:=s4 hb
    rw [if_neg (by decide)]
    cases st with
    | none =>
     simp only
     rw [ih (pos+wd) (some pos) acc (by omega) (by omega) (fun a ha=>by cases ha;exact ⟨by omega,hn⟩)]
     rfl
    | some a =>
     obtain ⟨h1,h2⟩:=hst a rfl
     simp only
     rw [ih (pos+wd) (some a) acc (by omega) (by omega) (fun b hb=>by
      cases hb
      refine ⟨by omega,fun j hj j1 j2=>?_⟩
      by_cases hjp:j < pos
      ·exact h2 j hj j1 hjp
      ·exact hn j hj (by omega) j2)]
     rfl
  ·obtain rfl:pos=l.length:=by omega
   exact hend _ st acc hst
theorem Zop {l:List UInt8}:Lib.goFieldsP blR ⟨l.toArray⟩=(wordsL l).map fun x=>(⟨x.toArray⟩:ByteArray):=by
 have hsz:(⟨l.toArray⟩:ByteArray).size=l.length:=by simp [ByteArray.size]
 have h:=Zpt (l:=l) l.length 0 none [] (by omega) (by omega) (fun a ha=>by cases ha)
 rw [List.map_nil,List.nil_append] at h
 have h2:wordsL (l.drop ((none:Option Nat).getD 0))=wordsL l:=rfl
 rw [h2] at h
 unfold Lib.goFieldsP Lib.spansOfP
 rw [hsz,← h,List.map_map]
 exact congrArg (fun g=>List.map g _) (funext fun x=>Lib.extract_eq _ x.1 x.2)
end Go.Proofs.YtciadfpomkdlnaaGreatDoor.Q
namespace Go.Sx
open Go
theorem Zkk {w0 w w':World} {As:List Ent} {α:Type} {c:Cod α} {T:TypeId} {xs:List α} {A cap:Nat} {cur:Array Value} (h:St w0 w As) (hb:RowKit.Below w.heap.size w w') (hA:w.heap.size≤A) (hcur:w'.heap[A]?=some (.cells cur T (0,0))) (hn:xs.length≤cap) (hsz:cur.size=c.n * cap) (ht:cur.toList.take (c.n * xs.length)=c.flat xs):St w0 w' (.ow c T (.slice (some ⟨A,0,none⟩) xs.length cap) xs::As):=by
 obtain ⟨H,bs,g⟩:=h
 have hlt:∀ b∈bs,b < w.heap.size:=fun b hm=>g.sat.lt b hm
 refine ⟨H,A::bs,Nat.le_trans g.size hb.size,hb.os.trans g.os,hb.tape.trans g.tape,hb.output.trans g.output,fun b o hbo=>?_,g.old,.inr ⟨A,bs,rfl,⟨0,cap,[],cur.toList.drop (c.n * xs.length),rfl,rfl,hn,?_,?_⟩,Sat.move (FH.le_refl H) g.sat fun b hm=>hb.block b (hlt b hm)⟩,List.nodup_cons.2 ⟨fun hm=>by have:=hlt A hm;omega,g.nd⟩,fun b hm=>?_⟩
 ·have h1:=g.fz b o hbo
  rw [hb.block b (Array.getElem?_eq_some_iff.1 h1).1];exact h1
 ·rw [← ht,List.take_append_drop,Array.length_toList,hsz];exact Nat.le_refl _
 ·rw [hcur,List.nil_append,← ht,List.take_append_drop]
 ·rcases List.mem_cons.1 hm with rfl|hm
  ·cases hH:H b with
   | none=>rfl
   | some o=>have h1:=g.fz b o hH;have:=(Array.getElem?_eq_some_iff.1 h1).1;omega
  ·exact g.ap b hm
end Go.Sx
namespace Go.Proofs.YtciadfpomkdlnaaGreatDoor.Q
open Go Go.Sx Go.RowKit
variable {w0:World} {As:List Ent}
theorem Zyr {s:List UInt8}:(s.foldr stepW ([],[])).1.length+(s.foldr stepW ([],[])).2.length≤s.length∧∀ w∈(s.foldr stepW ([],[])).2,w≠[]∧w.length≤s.length:=by
 induction s with
 | nil=>exact ⟨Nat.le_refl _,fun w h=>by cases h⟩
 | cons c s ih =>
  rw [List.foldr_cons]
  generalize s.foldr stepW ([],[])=q at ih ⊢
  obtain ⟨w,ws⟩:=q
  obtain ⟨h1,h2⟩:=ih
  simp only at h1 h2
  have h2':∀ x∈ws,x≠[]∧x.length≤(c::s).length:=fun x hx=>⟨(h2 x hx).1,by have:=(h2 x hx).2;rw [List.length_cons];omega⟩
  unfold stepW
  cases hb:isBl c with
  | true =>
   rw [if_pos rfl]
   cases w with
   | nil =>
    refine ⟨?_,h2'⟩
    show 0+ws.length≤_
    simp only [List.length_cons,List.length_nil] at h1 ⊢;omega
   | cons a w =>
    refine ⟨?_,fun x hx=>?_⟩
    ·show 0+((a::w)::ws).length≤_
     simp only [List.length_cons] at h1 ⊢;omega
    ·rcases List.mem_cons.1 hx with rfl|hx
     ·exact ⟨by simp,by simp only [List.length_cons] at h1 ⊢;omega⟩
     ·exact h2' x hx
  | false =>
   rw [if_neg (by decide)]
   refine ⟨?_,h2'⟩
   show (c::w).length+ws.length≤_
   simp only [List.length_cons] at h1 ⊢;omega
theorem Zys {s:List UInt8}:(wordsL s).length≤s.length∧∀ w∈wordsL s,w≠[]∧w.length≤s.length:=by
 have h:=Zyr (s:=s)
 unfold wordsL
 generalize s.foldr stepW ([],[])=q at h ⊢
 obtain ⟨w,ws⟩:=q
 obtain ⟨h1,h2⟩:=h
 simp only at h1 h2
 cases w with
 | nil=>exact ⟨by show ws.length≤_;omega,h2⟩
 | cons a w =>
  refine ⟨by show ((a::w)::ws).length≤_;simp only [List.length_cons] at h1 ⊢;omega,fun x hx=>?_⟩
  rcases List.mem_cons.1 hx with rfl|hx
  ·exact ⟨by simp,by omega⟩
  ·exact h2 x hx
theorem Zi8 {s:List UInt8}:(linesL s).length≤s.length+1∧∀ l∈linesL s,l.length≤s.length:=by
 unfold linesL
 induction s with
 | nil=>exact ⟨Nat.le_refl _,fun l h=>by rw [List.foldr_nil,List.mem_singleton] at h;rw [h];exact Nat.le_refl _⟩
 | cons c s ih =>
  rw [List.foldr_cons]
  generalize s.foldr stepL [[]]=q at ih ⊢
  obtain ⟨h1,h2⟩:=ih
  by_cases h:c=10
  ·subst h
   rw [Zcn]
   refine ⟨by simp only [List.length_cons];omega,fun l hl=>?_⟩
   rcases List.mem_cons.1 hl with rfl|hl
   ·exact Nat.zero_le _
   ·have:=h2 l hl;rw [List.length_cons];omega
  ·cases q with
   | nil =>
    have e:stepL c []=[[c]]:=if_neg h
    rw [e]
    exact ⟨by simp,fun l hl=>by rw [List.mem_singleton.1 hl];simp⟩
   | cons x t =>
    rw [Zb8 h]
    refine ⟨by simp only [List.length_cons] at h1 ⊢;omega,fun l hl=>?_⟩
    rcases List.mem_cons.1 hl with rfl|hl
    ·have:=h2 x (List.mem_cons_self ..);simp only [List.length_cons];omega
    ·have:=h2 l (List.mem_cons_of_mem _ hl);rw [List.length_cons];omega
instance:ElC Tryz.prog 9 (List UInt8) cW [] 16:=⟨by obtain ⟨i,h1,h2,h3,h4⟩:=(inferInstance:TI Tryz.prog 9 _ _ _).info;exact ⟨i,_,h1,h2,h3,h4,rfl⟩,by decide⟩
theorem Zz5 {xs:List (List UInt8)}:cW.flat xs=(xs.map fun x=>(⟨x.toArray⟩:ByteArray)).map Value.string:=by
 unfold Cod.flat
 rw [List.map_map]
 induction xs with
 | nil=>rfl
 | cons x xs ih=>rw [List.flatMap_cons,ih];rfl
theorem Znx (hm:LenR w0) {s:List UInt8} (hl:s.length≤1000000000):CallsS Tryz.prog w0 36 [.string ⟨s.toArray⟩,.string ⟨#[10]⟩] As fun u Bs=>Bs=.ow cW 9 u (linesL s)::As :=
 CallsS.mk fun w hs=>by
  obtain ⟨m,h0⟩:=hm.keep hs
  refine (Tryz.strings_Split ⟨s.toArray⟩ ⟨#[10]⟩ m w (by show s.toArray.size < _;simp;omega) h0 (by decide)).mono fun en w' ⟨h1,h2⟩=>?_
  subst h2
  rw [Zc1] at h1
  refine ⟨_,_,h1,rfl,?_⟩
  refine Zkk (cur:=((Lib.splitB ⟨#[10]⟩ 0 (Lib.countB ⟨s.toArray⟩ ⟨#[10]⟩) ⟨s.toArray⟩).map Value.string).toArray) hs (Below.alloc (Below.refl _ _) (Nat.le_refl _) _) (Nat.le_refl _) ?_ (Nat.le_refl _) ?_ ?_
  ·show (w.heap.push _)[w.heap.size]?=_
   rw [Array.getElem?_push_size]
  ·rw [Ze3];show _=1 * _;simp
  ·rw [Ze3,Zz5]
   show List.take (1 * _) _=_
   rw [Nat.one_mul]
   exact List.take_of_length_le (by simp)
theorem Z0e (w:World):PredAtRunes Tryz.prog 178 #[] blR w:=fun W r _ _=>by
 unfold FnGives blR
 by_cases h1:r=32<;>by_cases h2:r=9
 all_goals
  have z1:(r:Int)=32↔r=32:=by omega
  have z2:(r:Int)=9↔r=9:=by omega
  go_enter Tryz.func178,Tryz.ntmps178
  go_wp2
  all_goals first|(exfalso;omega)|(go_ret;exact ⟨by simp [h1,h2]<;>(rw [Bool.eq_iff_iff];simp only [Bool.or_eq_true,beq_iff_eq];omega),0,rfl⟩)
theorem Zt4 {s:List UInt8} (hl:s.length≤1000000000):CallsS Tryz.prog w0 177 [.string ⟨s.toArray⟩,.func (.func 178) #[] #[]] As fun u Bs=>Bs=.ow cW 9 u (wordsL s)::As :=
 CallsS.mk fun w hs=>by
  refine (Tryz.strings_FieldsFunc_runes 178 #[] (fun args w=>(inferInstance:Body Tryz.prog 178).run args w) blR ⟨s.toArray⟩ w (by show s.toArray.size≤_;simp;omega) (Z0e w)).mono fun en w' ⟨A,h1,h2,h3,h4⟩=>?_
  rw [Zop,List.length_map] at h1 h3
  obtain ⟨k1,k2⟩:=h3
  refine ⟨_,_,h1,rfl,?_⟩
  rcases k2 with ⟨k2,_⟩|⟨g,cap,cur,k2,k3,k4,k5,k6,k7,k8⟩
  ·cases k2
  ·cases k2
   refine Zkk (cur:=cur) hs h4 h2 k4 (Nat.le_refl _) (by rw [k7];exact Nat.mul_comm _ _) ?_
   rw [Zz5,← k8]
   show List.take (1 * _) _=List.take (_ * 1) _
   rw [Nat.one_mul,Nat.mul_one]
end Go.Proofs.YtciadfpomkdlnaaGreatDoor.Q
namespace Go.Proofs.YtciadfpomkdlnaaGreatDoor.Q
open Go Go.Sx
variable {w0:World} {As:List Ent}
theorem Zn0 {n:Nat} {x:StP} {l:List UInt8} {r:List (List UInt8)} (h:sayP l=none):runP n x (l::r)=runP (n+1) x r:=by
 show (match sayP l with|none=>runP (n+1) x r|some ws=>match stepP n x ws with|.inl e=>.inl e|.inr s'=>runP (n+1) s' r)=_
 rw [h]
theorem Zze {n e:Nat} {x:StP} {l:List UInt8} {ws r:List (List UInt8)} (h:sayP l=some ws) (k:stepP n x ws=.inl e):runP n x (l::r)=.inl e:=by
 show (match sayP l with|none=>runP (n+1) x r|some ws=>match stepP n x ws with|.inl e=>.inl e|.inr s'=>runP (n+1) s' r)=_
 rw [h]
 simp only
 rw [k]
theorem Zzd {n:Nat} {x y:StP} {l:List UInt8} {ws r:List (List UInt8)} (h:sayP l=some ws) (k:stepP n x ws=.inr y):runP n x (l::r)=runP (n+1) y r:=by
 show (match sayP l with|none=>runP (n+1) x r|some ws=>match stepP n x ws with|.inl e=>.inl e|.inr s'=>runP (n+1) s' r)=_
 rw [h]
 simp only
 rw [k]
set_option maxRecDepth 100000 in
set_option maxHeartbeats 800000 in
theorem Zwe {σ:Type} (hm:LenR w0) {l b:Nat} {Lp:Loop} {s:List UInt8} (E:σ→List Ent) (f:σ→StP) (Inv:σ→Prop) (hs:s.length≤100000) (hL:Lp.params.size=2) (x0:σ) (h0:Inv x0)
  (hy:∀ (n:Nat) (y:σ) (v vl:Value) (ws ls:List (List UInt8)),Inv y→1≤n→n≤1000000→ws≠[]→ws.length≤1000000000→(∀ w∈ws,w.length≤1000000000)→YieldE Tryz.prog w0 l Lp [.int .i64 (n:Int),v] (.ow cW 9 v ws::.ob l (.loop Lp)::.ow cW 9 vl ls::.cl b [.string ⟨s.toArray⟩] 9::E y)
   (fun u Bs=>∃ y',stepP n (f y) ws=.inr (f y')∧Inv y'∧u=.bool true∧Bs=.ob l (.loop Lp)::.ow cW 9 vl ls::.cl b [.string ⟨s.toArray⟩] 9::E y')
   (fun u Bs=>∃ (e:Nat) (y':σ),stepP n (f y) ws=.inl e∧u=errM (e:Int)∧Bs=E y')) :
  CallsE Tryz.prog w0 176 [.func (.yield l) #[] #[],.pointer (some ⟨b,0,none⟩)] (.ob l (.loop Lp)::.cl b [.string ⟨s.toArray⟩] 9::E x0)
   (fun u Bs=>∃ y',runP 1 (f x0) (linesL s)=.inr (f y')∧Inv y'∧u=.tuple #[]∧Bs=.ob l (.loop Lp)::.cl b [.string ⟨s.toArray⟩] 9::E y')
   (fun u Bs=>∃ (e:Nat) (y':σ),runP 1 (f x0) (linesL s)=.inl e∧u=errM (e:Int)∧Bs=E y'):=by
 refine Zcr Tryz.func176 rfl Tryz.ntmps176 rfl ?_
 have hlen:=Zi8 (s:=s)
 repeat' first|refine Kz ?_|intro _
 refine TL.callv rfl rfl rfl rfl (Znx hm (s:=s) (by omega)) ?_
 rintro vl _ rfl
 repeat' first|refine Kz ?_|intro _
 refine Tri.midB (fun e' As'=>∃ y:σ,(runP 1 (f x0) (linesL s)=.inr (f y)∧Inv y)∧e'=[]∧As'=.ob l (.loop Lp)::.ow cW 9 vl (linesL s)::.cl b [.string ⟨s.toArray⟩] 9::E y) ?_ ?_
 ·refine Tri.loop (ι:=Nat × σ) (fun x=>x.1≤(linesL s).length∧Inv x.2∧runP 1 (f x0) (linesL s)=runP (x.1+1) (f x.2) ((linesL s).drop x.1)) (fun x=>(linesL s).length - x.1) (fun x=>[(0,.func (.yield l) #[] #[]),(7,vl),(8,.int .i64 ((linesL s).length:Int)),(9,.int .i64 (x.1:Int))]) (fun x=>.ob l (.loop Lp)::.ow cW 9 vl (linesL s)::.cl b [.string ⟨s.toArray⟩] 9::E x.2) (0,x0) ⟨Nat.zero_le _,h0,rfl⟩ (by show Go.Sx.Sub _ [(0,.func (.yield l) #[] #[]),(7,vl),(8,.int .i64 ((linesL s).length:Int)),(9,.int .i64 0)];(exact Zad)) (by show Ents _ (.ob l (.loop Lp)::.ow cW 9 vl (linesL s)::.cl b [.string ⟨s.toArray⟩] 9::E x0);(exact Zaa)) ?_
  rintro ⟨i,y⟩ ⟨hi,hI,hrun⟩
  have hi':i≤(linesL s).length:=hi
  have hI':Inv y:=hI
  have hrun':runP 1 (f x0) (linesL s)=runP (i+1) (f y) ((linesL s).drop i):=hrun
  clear hi hI hrun
  show Tri _ _ _ _ [(0,.func (.yield l) #[] #[]),(7,vl),(8,.int .i64 ((linesL s).length:Int)),(9,.int .i64 (i:Int))] (.ob l (.loop Lp)::.ow cW 9 vl (linesL s)::.cl b [.string ⟨s.toArray⟩] 9::E y) _
  by_cases hlt:(i:Int) < ((linesL s).length:Int)
  ·have hlt':i < (linesL s).length:=by omega
   obtain ⟨ln,hln⟩:∃ ln,(linesL s)[i]?=some ln:=⟨_,List.getElem?_eq_getElem hlt'⟩
   have hdrop:(linesL s).drop i=ln::(linesL s).drop (i+1):=by
    rw [List.drop_eq_getElem_cons hlt']
    rw [List.getElem?_eq_getElem hlt'] at hln
    rw [Option.some.inj hln]
   rw [hdrop] at hrun'
   have hll:=hlen.2 ln (List.mem_of_getElem? hln)
   have hwn:=Zys (s:=ln)
   have hsay0:wordsL ln=[]→sayP ln=none:=fun h=>by unfold sayP;rw [h]
   have hsay:∀ w ws,wordsL ln=w::ws→sayP ln=if w.head?=some 35 then none else some (w::ws):=fun w ws h=>by unfold sayP;rw [h]
   generalize linesL s=Ls at *
   repeat' first|refine Kz ?_|intro _
   refine TL.callv rfl rfl rfl rfl (Zt4 (s:=ln) (by omega)) ?_
   rintro v5 _ rfl
   cases hw:wordsL ln with
   | nil =>
    have hn:=hsay0 hw
    rw [Zn0 hn] at hrun'
    repeat' first|refine Kz ?_|intro _
    refine Post.round (i+1,y) ⟨by show i+1≤Ls.length;omega,hI',hrun'⟩ (by show Ls.length - (i+1) < Ls.length - i;omega) (by show Go.Sx.Sub _ [(0,.func (.yield l) #[] #[]),(7,vl),(8,.int .i64 (Ls.length:Int)),(9,.int .i64 ((i+1:Nat):Int))];(exact Zad)) (by show Ents _ (.ob l (.loop Lp)::.ow cW 9 vl Ls::.cl b [.string ⟨s.toArray⟩] 9::E y);(exact Zaa))
   | cons w ws =>
    have hn:=hsay w ws hw
    rw [hw] at hwn
    obtain ⟨c,wt,hcw⟩:∃ c wt,w=c::wt:=by
     cases w with
     | nil=>exact absurd rfl (hwn.2 [] (List.mem_cons_self ..)).1
     | cons c wt=>exact ⟨c,wt,rfl⟩
    have hc0:w[0]?=some c:=by rw [hcw];rfl
    have hh:w.head?=some c:=by rw [hcw];rfl
    rw [hh] at hn
    have hz:(w::ws)[0]?=some w:=rfl
    have hzl:0 < (w::ws).length:=by simp
    have hne:w::ws≠[]:=by simp
    have hw1:(w::ws).length≤1000000000:=by omega
    have hw2:∀ x∈w::ws,x.length≤1000000000:=fun x hx=>by have:=(hwn.2 x hx).2;omega
    generalize w::ws=W at *
    repeat' first|refine Kz ?_|intro _
    by_cases h35:c=35
    ·have hc:(c.toNat:Int)=35:=by rw [h35];rfl
     rw [if_pos (by rw [h35])] at hn
     rw [Zn0 hn] at hrun'
     repeat' first|refine Kz ?_|intro _
     refine Post.round (i+1,y) ⟨by show i+1≤Ls.length;omega,hI',hrun'⟩ (by show Ls.length - (i+1) < Ls.length - i;omega) (by show Go.Sx.Sub _ [(0,.func (.yield l) #[] #[]),(7,vl),(8,.int .i64 (Ls.length:Int)),(9,.int .i64 ((i+1:Nat):Int))];(exact Zad)) (by show Ents _ (.ob l (.loop Lp)::.ow cW 9 vl Ls::.cl b [.string ⟨s.toArray⟩] 9::E y);(exact Zaa))
    ·have hc:¬ (c.toNat:Int)=35:=fun h=>h35 (UInt8.toNat_inj.1 (by show c.toNat=35;omega))
     rw [if_neg (fun h=>h35 (Option.some.inj h))] at hn
     have hyk:=hy (i+1) y v5 vl W Ls hI' (by omega) (by omega) hne hw1 hw2
     repeat' first|refine Kz ?_|intro _
     rw [show ((i:Int)+1)=((i+1:Nat):Int) from rfl]
     refine Zxn rfl rfl rfl rfl hL.symm hyk ?_ ?_
     ·rintro _ _ ⟨e,y',hst,rfl,rfl⟩
      have hr:=hrun'.trans (Zze hn hst)
      repeat' first|refine Kz ?_|intro _
      exact Zan rfl ⟨_,⟨e,y',hr,rfl,rfl⟩,Zaa⟩
     ·rintro _ _ ⟨y',hst,hI2,rfl,rfl⟩
      have hr:=hrun'.trans (Zzd hn hst)
      repeat' first|refine Kz ?_|intro _
      refine Post.round (i+1,y') ⟨by show i+1≤Ls.length;omega,hI2,hr⟩ (by show Ls.length - (i+1) < Ls.length - i;omega) (by show Go.Sx.Sub _ [(0,.func (.yield l) #[] #[]),(7,vl),(8,.int .i64 (Ls.length:Int)),(9,.int .i64 ((i+1:Nat):Int))];(exact Zad)) (by show Ents _ (.ob l (.loop Lp)::.ow cW 9 vl Ls::.cl b [.string ⟨s.toArray⟩] 9::E y');(exact Zaa))
  ·obtain rfl:i=(linesL s).length:=by omega
   have hy0:runP 1 (f x0) (linesL s)=.inr (f y):=by rw [hrun',List.drop_length];rfl
   repeat' first|refine Kz ?_|intro _
   exact Post.cut _ _ ⟨y,⟨hy0,hI'⟩,rfl,rfl⟩ Zad Zaa
 rintro _ _ ⟨y,⟨hr,hI⟩,rfl,rfl⟩
 repeat' first|refine Kz ?_|intro _
 refine Zio ?_
 (refine Zac ?_)
 exact ⟨_,⟨y,hr,hI,rfl,rfl⟩,Zaa⟩
end Go.Proofs.YtciadfpomkdlnaaGreatDoor.Q
namespace Go.Proofs.YtciadfpomkdlnaaGreatDoor.Q
open Go Go.Sx
variable {w0:World} {As:List Ent}
instance:IfT Tryz.prog 20:=⟨_,Tryz.underlying20⟩
theorem Zp8 {b1 b2 b3:Nat}:DefS Tryz.prog w0 99 [.pointer (some ⟨b1,0,none⟩),.pointer (some ⟨b2,0,none⟩),.pointer (some ⟨b3,0,none⟩)] As .returning fun u' A=>u'=.returning∧A=As:=by
 refine Zyo Tryz.func99 rfl Tryz.ntmps99 rfl rfl rfl rfl rfl (fun _ _=>rfl) fun c0 cs=>?_
 refine TLS.f ?_
 refine TLS.nil ?_
 repeat' first|refine Kz ?_|intro _
 refine TL.f rfl rfl (Zuq rfl) ?_
 repeat' first|refine Kz ?_|intro _
 exact Zsr ⟨_,⟨rfl,rfl⟩,Zaa⟩
theorem Zlp {b1 b2 b3:Nat} {x y z:Value} {n:Int}:DefS Tryz.prog w0 99 [.pointer (some ⟨b1,0,none⟩),.pointer (some ⟨b2,0,none⟩),.pointer (some ⟨b3,0,none⟩)] (.cl b1 [x] 56::.cl b2 [y] 3::.cl b3 [z] 42::As) (.panicking (thrown (errM n)))
  fun u' A=>u'=.panicking (caught (errM n))∧A=.cl b1 [.slice none 0 0] 56::.cl b2 [.int .i64 n] 3::.cl b3 [.int .i64 5] 42::As:=by
 refine Z06 Tryz.func99 rfl Tryz.ntmps99 rfl rfl rfl rfl rfl (fun _ _=>rfl) fun c0 cs=>?_
 refine TLS.f ?_
 refine TLS.nil ?_
 repeat' first|refine Kz ?_|intro _
 refine TL.f rfl rfl (Zrh rfl) ?_
 repeat' first|refine Kz ?_|intro _
 refine TL.f rfl rfl (Znr rfl rfl) ?_
 repeat' first|refine Kz ?_|intro _
 refine Z0r ?_
 exact Zsr ⟨_,⟨rfl,rfl⟩,Zaa⟩
theorem Zub {n:Nat} {ro:Option Nat} {e:Env} {fn:Func} {K:Value→List Ent→Prop} {v:Value} (hr:Res Tryz.prog ⟨n,ro,[]⟩ w0 fn e As v) (h:∃ A',K v A'∧Ents As A'):Post ⟨n,ro,[]⟩ w0 (FQD Tryz.prog w0 fn K) .ret e As:=Post.mk fun a w ha hs=>by
 show LeavesInM (fen none) 0 Tryz.prog fn a.tmps _ a.defers .returning w
 rw [ha.defers]
 obtain ⟨A',h1,h2⟩:=h
 exact ⟨v,hr a w ha hs,v,A',rfl,h1,h2 w0 w hs⟩
theorem Zpl {f:FuncId} {args:List Value} {Bs:List Ent} {K K2:Value→List Ent→Prop} (h:Ents As Bs) (k:CallsE Tryz.prog w0 f args Bs K K2):CallsE Tryz.prog w0 f args As K K2:=fun w hs=>k w (h w0 w hs)
theorem Zme {f:FuncId} {args:List Value} {Bs:List Ent} {u:FrameMode} {K:FrameMode→List Ent→Prop} (h:Ents As Bs) (k:DefS Tryz.prog w0 f args Bs u K):DefS Tryz.prog w0 f args As u K:=fun w hs=>k w (h w0 w hs)
theorem Zwf {s:List UInt8}:CallsS Tryz.prog w0 100 [.string ⟨s.toArray⟩] As fun u Bs=>∃ b,u=.func (.func 176) #[] #[.pointer (some ⟨b,0,none⟩)]∧Bs=.cl b [.string ⟨s.toArray⟩] 9::As:=by
 refine Zab Tryz.func100 rfl Tryz.ntmps100 rfl ?_
 repeat' first|refine Kz ?_|intro _
 (refine Zac ?_)
 exact ⟨_,⟨_,rfl,rfl⟩,Zaa⟩
theorem Zz3 {ws:List (List UInt8)} {k:Nat} (h:headP ws=some k):k≤4:=by
 unfold headP at h
 split at h
 ·split at h
  ·cases h;omega
  ·cases h
 ·cases h
theorem Zn8 {ch:Nat} {ps:List PP} {ws:List (List UInt8)} {p:PP} (h:patchP ch ps ws=some p):ps.length < 40:=by
 unfold patchP at h
 split at h
 ·rename_i k;exact k.2.1
 ·cases h
structure RdS where
 v:Value
 L:List RawP
 M:List (List UInt8 × Bool)
 ch:Nat
 en:Bool
def RdS.st (y:RdS):StP:=(y.ch,y.L.map ppOf,y.en)
def RdS.ok (y:RdS):Prop:=NmOk y.M y.L∧y.ch≤4∧y.L.length≤40
abbrev rdE (b2 b3 b4 b5 bm:Nat) (Zs:List Ent) (y:RdS):List Ent :=
 .cl b5 [y.v,.map (some bm),.int .i64 (y.ch:Int),.bool y.en] 181::.ow cPt 65 y.v y.L::.ob bm (mapO cStr cBo y.M)::.ft (devPF y.L)::.cl b2 [.slice none 0 0] 56::.cl b3 [.int .i64 0] 3::.cl b4 [.int .i64 0] 42::Zs
set_option maxRecDepth 100000 in
set_option maxHeartbeats 1000000 in
theorem Zfr (ht:Tab w0) (he:ErrR w0) (hm:LenR w0) {s:List UInt8} (hs:s.length≤1000000000) :
  CallsS Tryz.prog w0 30 [.string ⟨s.toArray⟩] As fun u Bs=>∃ (v:Value) (L:List RawP),L.map ppOf=(parseT s).1∧u=.tuple #[v,.int .i64 ((parseT s).2.1:Int),.int .i64 (parseT s).2.2]∧Bs=.ow cPt 65 v L::.ft (devPF L)::As:=by
 refine Zk3 Tryz.func30 rfl Tryz.ntmps30 rfl ?_
 refine TriV.seq ?_
 repeat' first|refine Kz ?_|intro _
 rename_i b2 b3 b4
 refine Zcl ?_
 refine TriV.scope ?_
 refine TriV.seq ?_
 by_cases hlong:8000 < s.length
 ·have hp:parseT s=([],0,3):=if_pos hlong
  repeat' first|refine Kz ?_|intro _
  rw [hp]
  refine Zub Zsp ⟨_,⟨.slice none 0 0,[],rfl,rfl,rfl⟩,?_⟩
  exact Ents.trans (by show Ents _ As;(exact Zaa)) (Ents.trans Zb6 (Zay (T:=65) cPt))
 repeat' first|refine Kz ?_|intro _
 refine Zcl ?_
 refine TriV.seq ?_
 repeat' first|refine Kz ?_|intro _
 refine TL.defer (vs:=[]) (fst:=[]) rfl rfl rfl ?_
 repeat' first|refine Kz ?_|intro _
 refine Zcl ?_
 refine TriV.seq ?_
 repeat' first|refine Kz ?_|intro _
 refine TL.rb rfl rfl (ExR.makeMap cStr cBo) ?_
 intro bm
 refine TL.f rfl rfl (ExF.build (l:=[.slice none 0 0,.map (some bm)]) rfl (fun w=>by kernel_rfl)) ?_
 refine TL.f rfl rfl (ExF.build (l:=[.slice none 0 0,.map (some bm),.int .i64 0,.bool false]) rfl (fun w=>by kernel_rfl)) ?_
 repeat' first|refine Kz ?_|intro _
 rename_i b5
 refine Zcl ?_
 refine TriV.seq ?_
 repeat' first|refine Kz ?_|intro _
 refine Zcl ?_
 refine Zxg ?_
 refine TriV.seq ?_
 repeat' first|refine Kz ?_|intro _
 refine TL.callv rfl rfl rfl rfl Zwf ?_
 rintro _ _ ⟨b1,rfl,rfl⟩
 refine TL.ents (Bs:=.cl b1 [.string ⟨s.toArray⟩] 9::rdE b2 b3 b4 b5 bm As ⟨.slice none 0 0,[],[],0,false⟩) (Ents.trans Zb6 (Ents.trans (Zay (T:=65) cPt) Zaa)) ?_
 repeat' first|refine Kz ?_|intro _
 refine Zcl ?_
 refine TriV.block ?_
 refine Zo1 rfl (fun As'=>∃ y:RdS,y.ok∧runP 1 (0,[],false) (linesL s)=.inr y.st∧As'=.cl b1 [.string ⟨s.toArray⟩] 9::rdE b2 b3 b4 b5 bm As y) (fun v As'=>∃ (e:Nat) (y:RdS),runP 1 (0,[],false) (linesL s)=.inl e∧v=errM (e:Int)∧As'=rdE b2 b3 b4 b5 bm As y) ?_ ?_ ?_
 ·intro Lp l rb hfn hst hpe hps hca hcb hok
  have hLp:({ ({ Lp with state:=.busy }:Loop) with state:=.ready,pending:=none }:Loop)=Lp:=by cases Lp;simp_all
  have hLq:({ Lp with state:=.ready,pending:=none }:Loop)=Lp:=by cases Lp;simp_all
  have hcall:=Zwe (w0:=w0) hm (l:=l) (b:=b1) (Lp:=Lp) (s:=s) (rdE b2 b3 b4 b5 bm (.ob rb (.deferred (some []))::As)) RdS.st RdS.ok (by omega) (by rw [hps];rfl) ⟨.slice none 0 0,[],[],0,false⟩ ⟨fun s=>rfl,Nat.zero_le _,Nat.zero_le _⟩ ?_
  ·refine CallsE.mono (Zpl Zaa hcall) ?_ ?_
   ·rintro _ _ ⟨y,h1,h2,_,rfl⟩
    refine ⟨.ready,_,⟨y,h2,h1,rfl⟩,by decide,?_⟩
    rw [hLq]
    (exact Zaa)
   ·rintro _ _ ⟨e,y,h1,rfl,rfl⟩
    exact ⟨_,⟨e,y,h1,rfl,rfl⟩,Zaa⟩
  ·intro n y v vl ws ls hI hn1 hn2 hne hw1 hw2
   obtain ⟨yv,L,M,ch,en⟩:=y
   obtain ⟨hNm,hch,hL40⟩:=hI
   simp only at hNm hch hL40
   dsimp only [rdE]
   refine YieldE.of (n:=62) (l:=l) (ps:=[17,18]) hfn hps hca hcb rfl (by decide) hok ?_
   repeat' first|refine Kz ?_|intro _
   refine Ziu hst ?_
   cases en with
   | true =>
    have hst':stepP n (RdS.st ⟨yv,L,M,ch,true⟩) ws=.inl n:=rfl
    repeat' first|refine Kz ?_|intro _
    refine TL.f rfl rfl (Zaq rfl rfl) ?_
    refine TL.panic rfl rfl ?_
    repeat' first|refine Kz ?_|intro _
    exact Zce rfl ⟨_,⟨n,⟨yv,L,M,ch,true⟩,hst',rfl,rfl⟩,Zaa⟩
   | false =>
    by_cases hc0:ch=0
    ·subst hc0
     have hS:∀ x,headP ws=some x→stepP n (RdS.st ⟨yv,L,M,0,false⟩) ws=.inr (x,L.map ppOf,false):=fun x h=>by
      show (match headP ws with|some k=>(.inr (k,L.map ppOf,false):Nat ⊕ StP)|none=>.inl n)=_
      rw [h]
     have hN:headP ws=none→stepP n (RdS.st ⟨yv,L,M,0,false⟩) ws=.inl n:=fun h=>by
      show (match headP ws with|some k=>(.inr (k,L.map ppOf,false):Nat ⊕ StP)|none=>.inl n)=_
      rw [h]
     repeat' first|refine Kz ?_|intro _
     refine TL.callvE rfl rfl rfl rfl (Zwl hw1 hw2) ?_ ?_
     ·rintro _ _ ⟨h1,rfl,rfl⟩
      have hst':=hN h1
      repeat' first|refine Kz ?_|intro _
      exact Zce rfl ⟨_,⟨n,⟨yv,L,M,0,false⟩,hst',rfl,rfl⟩,Zaa⟩
     ·rintro _ _ ⟨k,h1,rfl,rfl⟩
      have hst':=hS k h1
      have hk:=Zz3 h1
      repeat' first|refine Kz ?_|intro _
      refine Zc7 ⟨_,⟨⟨yv,L,M,k,false⟩,hst',⟨hNm,hk,hL40⟩,rfl,rfl⟩,?_⟩
      rw [hLp]
      (exact Zaa)
    ·have hE:ws=[wEnd]→stepP n (RdS.st ⟨yv,L,M,ch,false⟩) ws=(if L.map ppOf=[] then .inl 0 else .inr (ch,L.map ppOf,true)):=fun h=>by
      show (if false=true then _ else if ch=0 then _ else if ws=[wEnd] then _ else _)=_
      rw [if_neg (by decide),if_neg hc0,if_pos h]
      rfl
     have hS:∀ r,patchP ch (L.map ppOf) ws=some (ppOf r)→ws≠[wEnd]→stepP n (RdS.st ⟨yv,L,M,ch,false⟩) ws=.inr (ch,(L++[r]).map ppOf,false):=fun r h k=>by
      show (if false=true then _ else if ch=0 then _ else if ws=[wEnd] then _ else (match patchP ch (L.map ppOf) ws with|some p=>(.inr (ch,L.map ppOf++[p],false):Nat ⊕ StP)|none=>.inl n))=_
      rw [if_neg (by decide),if_neg hc0,if_neg k,h,List.map_append]
      rfl
     have hN:patchP ch (L.map ppOf) ws=none→ws≠[wEnd]→stepP n (RdS.st ⟨yv,L,M,ch,false⟩) ws=.inl n:=fun h k=>by
      show (if false=true then _ else if ch=0 then _ else if ws=[wEnd] then _ else (match patchP ch (L.map ppOf) ws with|some p=>(.inr (ch,L.map ppOf++[p],false):Nat ⊕ StP)|none=>.inl n))=_
      rw [if_neg (by decide),if_neg hc0,if_neg k,h]
     by_cases hl1:ws.length=1
     ·obtain ⟨w,hw⟩:∃ w,ws=[w]:=by
       rcases ws with _|⟨w,_|⟨w2,ws⟩⟩
       ·simp at hl1
       ·exact ⟨w,rfl⟩
       ·simp at hl1
      have hz:ws[0]?=some w:=by rw [hw];rfl
      have hww:=hw2 w (by rw [hw];simp)
      by_cases hwe:w=[101,110,100]
      ·have hwE:ws=[wEnd]:=by rw [hw,hwe];rfl
       have hst':=hE hwE
       clear hE hS hN hwE
       by_cases hL0:L.length=0
       ·have hn0:L.map ppOf=[]:=by rw [List.eq_nil_of_length_eq_zero hL0];rfl
        rw [if_pos hn0] at hst'
        repeat' first|refine Kz ?_|intro _
        refine TL.f rfl rfl (Zaq rfl rfl) ?_
        refine TL.panic rfl rfl ?_
        repeat' first|refine Kz ?_|intro _
        exact Zce rfl ⟨_,⟨0,⟨yv,L,M,ch,false⟩,hst',rfl,rfl⟩,Zaa⟩
       ·have hn0:¬ L.map ppOf=[]:=fun h=>hL0 (by have:=congrArg List.length h;simpa using this)
        rw [if_neg hn0] at hst'
        repeat' first|refine Kz ?_|intro _
        refine Zc7 ⟨_,⟨⟨yv,L,M,ch,true⟩,hst',⟨hNm,hch,hL40⟩,rfl,rfl⟩,?_⟩
        rw [hLp]
        (exact Zaa)
      ·have hwE:ws≠[wEnd]:=fun h=>hwe (by rw [hw] at h;exact (List.cons.inj h).1)
       replace hS:=fun r h=>hS r h hwE
       replace hN:=fun h=>hN h hwE
       repeat' first|refine Kz ?_|intro _
       refine TL.ents (Bs:=.cl b5 [yv,.map (some bm),.int .i64 (ch:Int),.bool false] 181::.ow cPt 65 yv L::.ob bm (mapO cStr cBo M)::.ft (devPF L)::.ob l (.loop { Lp with state:=.busy })::.ow cW 9 v ws::.ow cW 9 vl ls::.cl b1 [.string ⟨s.toArray⟩] 9::.cl b2 [.slice none 0 0] 56::.cl b3 [.int .i64 0] 3::.cl b4 [.int .i64 0] 42::.ob rb (.deferred (some []))::As) Zaa ?_
       refine TL.callvE rfl rfl rfl rfl (Zru ht he hm ⟨by omega,hch⟩ hw1 hw2 hNm hL40) ?_ ?_
       ·rintro _ _ ⟨h1,rfl,rfl⟩
        have hst':=hN h1
        repeat' first|refine Kz ?_|intro _
        exact Zce rfl ⟨_,⟨n,⟨yv,L,M,ch,false⟩,hst',rfl,rfl⟩,Zaa⟩
       ·rintro _ _ ⟨r,v',h1,rfl,rfl⟩
        have hst':=hS r h1
        have hL41:=Zn8 h1
        repeat' first|refine Kz ?_|intro _
        refine Zc7 ⟨_,⟨⟨v',L++[r],mSet M r.nm true,ch,false⟩,hst',⟨hNm.add,hch,by show (L++[r]).length≤40;rw [List.length_append,List.length_singleton];rw [List.length_map] at hL41;omega⟩,rfl,rfl⟩,?_⟩
        rw [hLp]
        (exact Zaa)
     ·have hwE:ws≠[wEnd]:=fun h=>hl1 (by rw [h];rfl)
      replace hS:=fun r h=>hS r h hwE
      replace hN:=fun h=>hN h hwE
      repeat' first|refine Kz ?_|intro _
      refine TL.ents (Bs:=.cl b5 [yv,.map (some bm),.int .i64 (ch:Int),.bool false] 181::.ow cPt 65 yv L::.ob bm (mapO cStr cBo M)::.ft (devPF L)::.ob l (.loop { Lp with state:=.busy })::.ow cW 9 v ws::.ow cW 9 vl ls::.cl b1 [.string ⟨s.toArray⟩] 9::.cl b2 [.slice none 0 0] 56::.cl b3 [.int .i64 0] 3::.cl b4 [.int .i64 0] 42::.ob rb (.deferred (some []))::As) Zaa ?_
      refine TL.callvE rfl rfl rfl rfl (Zru ht he hm ⟨by omega,hch⟩ hw1 hw2 hNm hL40) ?_ ?_
      ·rintro _ _ ⟨h1,rfl,rfl⟩
       have hst':=hN h1
       repeat' first|refine Kz ?_|intro _
       exact Zce rfl ⟨_,⟨n,⟨yv,L,M,ch,false⟩,hst',rfl,rfl⟩,Zaa⟩
      ·rintro _ _ ⟨r,v',h1,rfl,rfl⟩
       have hst':=hS r h1
       have hL41:=Zn8 h1
       repeat' first|refine Kz ?_|intro _
       refine Zc7 ⟨_,⟨⟨v',L++[r],mSet M r.nm true,ch,false⟩,hst',⟨hNm.add,hch,by show (L++[r]).length≤40;rw [List.length_append,List.length_singleton];rw [List.length_map] at hL41;omega⟩,rfl,rfl⟩,?_⟩
       rw [hLp]
       (exact Zaa)
 ·rintro _ ⟨y,hy,hrun,rfl⟩ rb
  obtain ⟨v,L,M,ch,en⟩:=y
  dsimp only [rdE]
  refine Zk9 ?_
  refine Zcl ?_
  refine TriV.seq ?_
  cases en with
  | false =>
   have hp:parseT s=([],0,5):=by unfold parseT;rw [if_neg hlong,hrun];rfl
   repeat' first|refine Kz ?_|intro _
   refine TL.f rfl rfl (Zaq rfl rfl) ?_
   refine TL.panic rfl rfl ?_
   repeat' first|refine Kz ?_|intro _
   refine Zin ?_
   refine Zf8 rfl ((Zme Zaa (Zlp (x:=.slice none 0 0) (y:=.int .i64 0) (z:=.int .i64 0) (n:=0) (As:=As))).mono ?_)
   rintro _ _ ⟨rfl,rfl⟩
   rw [hp]
   exact ⟨rfl,_,Zsp,_,⟨.slice none 0 0,[],rfl,rfl,rfl⟩,Ents.trans (by show Ents _ As;(exact Zaa)) (Ents.trans Zb6 (Zay (T:=65) cPt))⟩
  | true =>
   have hp:parseT s=(L.map ppOf,0,0):=by unfold parseT;rw [if_neg hlong,hrun];rfl
   repeat' first|refine Kz ?_|intro _
   refine Zcl ?_
   refine TriV.of ?_
   repeat' first|refine Kz ?_|intro _
   refine Zo4 ?_
   refine Zo7 rfl ((Zp8).mono ?_)
   rintro _ _ ⟨rfl,rfl⟩
   rw [hp]
   exact ⟨rfl,_,Zsp,_,⟨v,L,rfl,rfl,rfl⟩,Zaa⟩
 ·rintro _ _ ⟨e,y,hrun,rfl,rfl⟩ rb
  obtain ⟨v,L,M,ch,en⟩:=y
  dsimp only [rdE]
  have hp:parseT s=([],e,5):=by unfold parseT;rw [if_neg hlong,hrun]
  refine Znj ?_
  repeat' first|refine Kz ?_|intro _
  refine Zin ?_
  refine Zf8 rfl ((Zme Zaa (Zlp (x:=.slice none 0 0) (y:=.int .i64 0) (z:=.int .i64 0) (n:=(e:Int)) (As:=As))).mono ?_)
  rintro _ _ ⟨rfl,rfl⟩
  rw [hp]
  exact ⟨rfl,_,Zsp,_,⟨.slice none 0 0,[],rfl,rfl,rfl⟩,Ents.trans (by show Ents _ As;(exact Zaa)) (Ents.trans Zb6 (Zay (T:=65) cPt))⟩
end Go.Proofs.YtciadfpomkdlnaaGreatDoor.Q
