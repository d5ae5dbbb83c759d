/- Plain: what the reference makes of a text is what the program makes of it. -/
import Derived.Test.YtciadfpomkdlnaaGreatDoorCc7
import Derived.Test.YtciadfpomkdlnaaGreatDoorCp3
set_option maxHeartbeats 1000000
namespace Go.Proofs.YtciadfpomkdlnaaGreatDoor.Q
open Go Go.Sx
def refP (neg:Bool) (a b:List UInt8) (dotted:Bool):Option Rat :=
 if a=[]∨(1 < a.length∧a[0]?=some 48)∨(neg=true∧numOf (a++b)=0)∨(dotted=true∧(b.length < 1∨20 < b.length)) then none
 else some (mkRat (if neg then -(numOf (a++b):Int) else (numOf (a++b):Int)) (10 ^ b.length))
theorem Zpg {l:List UInt8} {c:UInt8} (hc:c∈l) (h:isDig c=false):digS l=false:=by
 cases hd:digS l with
 | false=>rfl
 | true =>
  have:=(Zge hd).2 c hc
  rw [h] at this;cases this
theorem Zuu {r:Rat} {K:Nat} (hK:K=600) (h:10 ^ K≤r.num.natAbs):outF r=([],[],6):=by
 have h1:600 < Lib.nDigits r.num.natAbs:=by
  rcases Nat.lt_or_ge 600 (Lib.nDigits r.num.natAbs) with h1|h1
  ·exact h1
  ·rw [← hK] at h1;have:=Zam h1;omega
 unfold outF
 rw [if_neg]
 rintro ⟨h2,_⟩
 unfold outW at h2
 rw [if_pos h1] at h2
 cases h2
theorem Zwr {z:Int} {d K:Nat} (h0:d≠0) (h:10 ^ K * d≤z.natAbs):10 ^ K≤(mkRat z d).num.natAbs:=by
 obtain ⟨e1,e2⟩:=Zdc (n:=z) h0
 rw [e1]
 generalize hg:Nat.gcd z.natAbs d=g
 have hgz:g ∣ z.natAbs:=by rw [← hg];exact Nat.gcd_dvd_left _ _
 have hgd:g ∣ d:=by rw [← hg];exact Nat.gcd_dvd_right _ _
 have hg0:0 < g:=Nat.pos_of_dvd_of_pos hgd (by omega)
 have e:(z / (g:Int)).natAbs=z.natAbs / g:=by
  obtain ⟨k,hk⟩:((g:Int) ∣ z):=Int.ofNat_dvd_left.2 hgz
  rw [hk,Int.mul_ediv_cancel_left _ (by omega),Int.natAbs_mul,Int.natAbs_natCast,Nat.mul_div_cancel_left _ hg0]
 rw [e]
 generalize 10 ^ K=T at h ⊢
 rw [Nat.le_div_iff_mul_le hg0]
 refine Nat.le_trans (Nat.mul_le_mul_left _ (Nat.le_of_dvd (by omega) hgd)) h
theorem Zuw {a b:List UInt8} (hd:∀ c∈a,isDig c=true) (h0:a≠[]) (h:a[0]?≠some 48):10 ^ (a.length - 1) * 10 ^ b.length≤numOf (a++b):=by
 cases a with
 | nil=>exact absurd rfl h0
 | cons c r =>
  rw [Za6,Zgr]
  have h1:=Zds.1 (hd c List.mem_cons_self)
  have h2:1≤dig c:=by
   have:c.toNat≠48:=fun e=>h (by rw [List.getElem?_cons_zero];congr 1;exact UInt8.toNat_inj.1 e)
   unfold dig;omega
  have h3:10 ^ r.length≤dig c * 10 ^ r.length:=Nat.le_mul_of_pos_left _ h2
  have e:(c::r).length - 1=r.length:=by simp
  rw [e]
  refine Nat.le_trans (Nat.mul_le_mul_right _ (Nat.le_trans h3 (Nat.le_add_right _ _))) (Nat.le_add_right _ _)
theorem Zyb {neg dotted:Bool} {a b:List UInt8} (ha:∀ c∈a,isDig c=true) (hb:∀ c∈b,isDig c=true) (hd:dotted=false→b=[]) :
  parseO (parseP neg a b dotted)=(match refP neg a b dotted with|none=>([],[],5)|some r=>outF r):=by
 unfold parseP refP
 by_cases h0:a=[]
 ·rw [if_neg (by rw [h0];simp [digS]),if_pos (.inl h0)];rfl
 by_cases h1:1 < a.length∧a[0]?=some 48
 ·rw [if_neg (fun h=>h.2 h1),if_pos (.inr (.inl h1))];rfl
 rw [if_pos ⟨Zk5 h0 ha,h1⟩]
 by_cases h2:dotted=true∧(b.length < 1∨20 < b.length)
 ·rw [if_pos,if_pos (.inr (.inr (.inr h2)))];rfl
  refine ⟨h2.1,?_⟩
  rintro ⟨k1,k2⟩
  have:=(Zge k1).1
  rcases h2.2 with h|h
  ·exact this (List.length_eq_zero_iff.1 (by omega))
  ·omega
 rw [if_neg (c:=dotted=true∧¬ (digS b=true∧b.length≤20)) (by
  rintro ⟨k1,k2⟩
  refine k2 ⟨Zk5 ?_ hb,?_⟩
  ·rintro rfl;exact h2 ⟨k1,.inl (by simp)⟩
  ·exact Nat.not_lt.1 fun k=>h2 ⟨k1,.inr k⟩)]
 by_cases h3:neg=true∧numOf (a++b)=0
 ·rw [if_pos h3,if_pos (.inr (.inr (.inl h3)))];rfl
 rw [if_neg h3,if_neg (c:=a=[]∨_) (by rintro (h|h|h|h);exact h0 h;exact h1 h;exact h3 h;exact h2 h)]
 by_cases h4:600 < a.length
 ·rw [if_pos h4]
  have hn:a[0]?≠some 48:=fun h=>h1 ⟨by omega,h⟩
  have hge:=Zuw (b:=b) ha h0 hn
  obtain ⟨K,hK⟩:∃ K:Nat,K=600:=⟨_,rfl⟩
  have h5:10 ^ K * 10 ^ b.length≤10 ^ (a.length - 1) * 10 ^ b.length:=Nat.mul_le_mul_right _ (Nat.pow_le_pow_right (by decide) (by omega))
  have hz:(if neg=true then -(numOf (a++b):Int) else (numOf (a++b):Int)).natAbs=numOf (a++b):=by split<;>omega
  exact (Zuu hK (Zwr (Nat.ne_of_gt (Nat.pow_pos (by decide))) (by rw [hz];exact Nat.le_trans h5 hge))).symm
 ·rw [if_neg h4];rfl
theorem Zxr {neg:Bool} {u r:List UInt8} {c:UInt8} (hu:∀ c∈u,isDig c=true) (h46:c≠46) (hc:isDig c=false) :
  parseP neg (Lib.cut (u++c::r) [46]).1 (Lib.cut (u++c::r) [46]).2.1 (Lib.cut (u++c::r) [46]).2.2=.inr 5:=by
 have hm : c∈(Lib.cut (u++c::r) [46]).1:=by
  obtain ⟨s1,s2⟩:=@Zpi (u++c::r)
  cases hd:(Lib.cut (u++c::r) [46]).2.2 with
  | false=>rw [← (s2 hd).1];simp
  | true =>
   have e:=s1 hd
   generalize (Lib.cut (u++c::r) [46]).1=a at *
   generalize (Lib.cut (u++c::r) [46]).2.1=b at *
   rcases Nat.lt_or_ge u.length a.length with hl|hl
   ·have h1:(u++c::r)[u.length]?=some c:=by simp
    rw [e,List.append_assoc,List.getElem?_append_left hl] at h1
    exact List.mem_of_getElem? h1
   ·exfalso
    have h1:(u++c::r)[a.length]?=some 46:=by rw [e];simp
    rcases Nat.lt_or_ge a.length u.length with h2|h2
    ·rw [List.getElem?_append_left h2] at h1
     have:=hu 46 (List.mem_of_getElem? h1)
     simp [isDig] at this
    ·have:a.length=u.length:=by omega
     rw [this] at h1
     simp at h1
     exact h46 h1
 unfold parseP
 rw [if_neg (by rw [Zpg hm hc];simp)]
theorem Zxq {neg:Bool} {u v r:List UInt8} {c:UInt8} (hu:∀ c∈u,isDig c=true) (hc:isDig c=false) :
  parseP neg (Lib.cut (u++[46]++(v++c::r)) [46]).1 (Lib.cut (u++[46]++(v++c::r)) [46]).2.1 (Lib.cut (u++[46]++(v++c::r)) [46]).2.2=.inr 5:=by
 rw [Zk8 (fun c hc=>Zmg (hu c hc))]
 unfold parseP
 split
 ·rw [if_pos ⟨rfl,by rw [Zpg (c:=c) (by simp) hc];simp⟩]
 ·rfl
end Go.Proofs.YtciadfpomkdlnaaGreatDoor.Q
