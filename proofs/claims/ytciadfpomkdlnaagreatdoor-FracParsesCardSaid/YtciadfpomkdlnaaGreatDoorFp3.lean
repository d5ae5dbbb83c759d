/- Walks: the reference on fractions: Parse. -/
import Derived.Test.YtciadfpomkdlnaaGreatDoorLp2
import Derived.Test.YtciadfpomkdlnaaGreatDoorCr1
set_option maxHeartbeats 1000000
namespace Go.Proofs.YtciadfpomkdlnaaGreatDoor
open Go Go.Sx
variable {w0:World} {As:List Ent}
theorem Zsg (s:List UInt8):∃ (neg:Bool) (t:List UInt8),Lib.hasPrefix s [45]=neg∧Lib.trimPrefix s [45]=t∧((neg=true∧s=45::t)∨(neg=false∧s=t∧s[0]?≠some 45)):=by
 refine ⟨_,_,rfl,rfl,?_⟩
 unfold Lib.trimPrefix Lib.hasPrefix
 cases s with
 | nil=>right;simp [List.isPrefixOf]
 | cons c r =>
  by_cases h:c=45
  ·left;subst h;simp [List.isPrefixOf]
  ·right
   have h':¬ 45=c:=fun e=>h e.symm
   simp [List.isPrefixOf,h,h']
structure Scan (t:List UInt8) (k:Nat) (u v:List UInt8) (d:Bool):Prop where
 take:t.take k=if d then u++46::v else u
 hu:∀ c∈u,isDig c=true
 hv:∀ c∈v,isDig c=true
 no:d=false→v=[]
def ptOf (f n:Nat) (u:List UInt8) (d:Bool):Nat:=if d then f+u.length else n
theorem Zrv {t:List UInt8} {k:Nat} {c:UInt8} (h:t[k]?=some c):t.take (k+1)=t.take k++[c]:=by rw [List.take_add_one,h];rfl
theorem Zw0 {t:List UInt8} {k:Nat} {c:UInt8} (h:t[k]?=some c):t=t.take k++c::t.drop (k+1):=by
 obtain ⟨hk,rfl⟩:=List.getElem?_eq_some_iff.1 h
 conv=>lhs;rw [← List.take_append_drop k t,List.drop_eq_getElem_cons hk]
theorem Zfo {w:List UInt8} {c:UInt8} (hc:isDig c=true):decide (numOf (w++[c])=0)=(decide (numOf w=0)&&decide (c=48)):=by
 have h:=Zds.1 hc
 rw [Zbe,Bool.eq_iff_iff,Bool.and_eq_true,decide_eq_true_eq,decide_eq_true_eq,decide_eq_true_eq]
 unfold dig
 constructor
 ·intro h1
  refine ⟨by omega,UInt8.toNat_inj.1 (show c.toNat=48 by omega)⟩
 ·rintro ⟨h1,rfl⟩
  rw [h1];rfl
theorem Zse {u:List UInt8}:Q.numK 0 u u.length=numOf u:=by unfold Q.numK;rw [List.take_length];omega
theorem Zuy {u v:List UInt8}:Q.numK (numOf u) v v.length=numOf (u++v):=by
 unfold Q.numK
 rw [List.take_length]
 conv=>rhs;unfold numOf
 rw [List.foldl_append,Zga];rfl
theorem Znc:qud ((0:Nat):Int).natAbs=[]:=List.length_eq_zero_iff.1 (by
 have:=Zaj (n:=((0:Nat):Int).natAbs) (k:=0) (by decide)
 omega)
theorem Zrj {c:UInt8} {n:Nat} (hn:n < 256):c=UInt8.ofNat n↔(c.toNat:Int)=(n:Int):=by
 rw [← UInt8.toNat_inj,UInt8.toNat_ofNat',Nat.mod_eq_of_lt hn]
 omega
set_option maxRecDepth 100000 in
set_option maxHeartbeats 16000000 in
theorem Zqe {s:List UInt8} (hl:s.length≤1000) :
  CQ Tryz.prog w0 21 [.string ⟨s.toArray⟩] As (.tuple #[.agg #[.string ⟨(Q.parseO (parseQ s)).1.toArray⟩,.string ⟨(Q.parseO (parseQ s)).2.1.toArray⟩],.int .i64 (Q.parseO (parseQ s)).2.2]):=by
 unfold parseQ
 obtain ⟨neg,t,hn,ht,hs⟩:=Zsg s
 rw [hn,ht]
 obtain ⟨f,hf⟩:∃ f:Nat,f=if neg then 1 else 0:=⟨_,rfl⟩
 refine Zab Tryz.func21 rfl Tryz.ntmps21 rfl ?_
 iterate 11 (first|(show TL _ _ _ _ (_::_) _ _ _;first|refine Zw9 ?_|(refine Zxb ?_;intro _))|refine Stp.h ?_)
 rename_i b2
 refine Tri.cut (fun e' As'=>e'=[(0,.string ⟨s.toArray⟩),(2,.pointer (some ⟨b2,0,none⟩)),(3,.int .i64 0),(4,.int .i64 (f:Int))]∧As'=.cl b2 [.string ⟨#[]⟩,.string ⟨#[]⟩] 24::As) ?_ ?_
 ·by_cases h0:s.length=0
  ·have hf0:(f:Int)=0:=by
    rcases hs with ⟨_,rfl⟩|⟨rfl,_,_⟩
    ·simp at h0
    ·simp at hf;omega
   repeat' first|refine Kz ?_|intro _
   exact Post.cut [(0,.string ⟨s.toArray⟩),(2,.pointer (some ⟨b2,0,none⟩)),(3,.int .i64 0),(4,.int .i64 0)] _ ⟨by rw [hf0],rfl⟩ Zae Zaa
  ·obtain ⟨c0,hc0⟩:∃ c,s[0]?=some c:=⟨_,List.getElem?_eq_getElem (by omega)⟩
   rcases hs with ⟨rfl,hs⟩|⟨rfl,_,h45⟩
   ·have h45:(c0.toNat:Int)=45:=by rw [hs] at hc0;cases hc0;rfl
    have hf1:(f:Int)=1:=by simp at hf;omega
    repeat' first|refine Kz ?_|intro _
    exact Post.cut [(0,.string ⟨s.toArray⟩),(2,.pointer (some ⟨b2,0,none⟩)),(3,.int .i64 0),(4,.int .i64 1)] _ ⟨by rw [hf1],rfl⟩ Zae Zaa
   ·have h45':¬ (c0.toNat:Int)=45:=fun h=>h45 (by rw [hc0];congr 1;exact (Zrj (n:=45) (by decide)).2 h)
    have hf0:(f:Int)=0:=by simp at hf;omega
    repeat' first|refine Kz ?_|intro _
    exact Post.cut [(0,.string ⟨s.toArray⟩),(2,.pointer (some ⟨b2,0,none⟩)),(3,.int .i64 0),(4,.int .i64 0)] _ ⟨by rw [hf0],rfl⟩ Zae Zaa
 rintro _ _ ⟨rfl,rfl⟩
 have hfn:(f:Int)=1↔neg=true:=by cases neg<;>simp at hf<;>subst hf<;>simp
 have hlen:s.length=f+t.length:=by
  rcases hs with ⟨rfl,rfl⟩|⟨rfl,rfl,_⟩<;>simp at hf<;>subst hf<;>simp<;>omega
 have hget:∀ k c,t[k]?=some c→s[f+k]?=some c:=by
  intro k c h
  rcases hs with ⟨rfl,rfl⟩|⟨rfl,rfl,_⟩<;>simp at hf<;>subst hf
  ·rw [Nat.add_comm,List.getElem?_cons_succ];exact h
  ·rw [Nat.zero_add];exact h
 have hdrop:s.drop f=t:=by
  rcases hs with ⟨rfl,rfl⟩|⟨rfl,rfl,_⟩<;>simp at hf<;>subst hf<;>rfl
 clear hs hn ht hf
 repeat' first|refine Kz ?_|intro _
 refine Tri.loop (ι:=Nat × List UInt8 × List UInt8 × Bool) (fun x=>(f≤x.1∧x.1≤s.length)∧Scan t (x.1 - f) x.2.1 x.2.2.1 x.2.2.2) (fun x=>s.length - x.1)
  (fun x=>[(0,.string ⟨s.toArray⟩),(2,.pointer (some ⟨b2,0,none⟩)),(3,.int .i64 0),(4,.int .i64 (f:Int)),(5,.int .i64 ((ptOf f s.length x.2.1 x.2.2.2:Nat):Int)),(6,.bool (decide (numOf (x.2.1++x.2.2.1)=0))),(7,.int .i64 (x.1:Int))])
  (fun _=>.cl b2 [.string ⟨#[]⟩,.string ⟨#[]⟩] 24::As) (f,[],[],false) ⟨⟨Nat.le_refl _,by omega⟩,by simp,by simp,by simp,by simp⟩ Zae Zaa ?_
 rintro ⟨i,u,v,d⟩ ⟨⟨hi1,hi2⟩,sc⟩
 simp only at hi1 hi2 sc
 show Tri _ _ _ _ [(0,_),(2,_),(3,_),(4,_),(5,.int .i64 ((ptOf f s.length u d:Nat):Int)),(6,.bool (decide (numOf (u++v)=0))),(7,.int .i64 (i:Int))] _ _
 repeat' first|refine Kz ?_|intro _
 (refine Kx (fun hc=>?_) fun hc=>?_)
 ·obtain ⟨c,htc⟩:∃ c,t[i - f]?=some c:=⟨_,List.getElem?_eq_getElem (by omega)⟩
  have hsc:=hget _ _ htc
  rw [show f+(i - f)=i by omega] at hsc
  have hts:=Zrv htc
  have htd:=Zw0 htc
  rw [show i - f+1=i+1 - f by omega] at hts
  have hik:i - f < t.length:=(List.getElem?_eq_some_iff.1 htc).1
  have hkl:(t.take (i - f)).length=i - f:=by rw [List.length_take];omega
  cases d with
  | false =>
   obtain rfl:=sc.no rfl
   have htk:t.take (i - f)=u:=sc.take
   rw [htk] at hts htd hkl
   rw [show ptOf f s.length u false=s.length from rfl]
   by_cases hc:(c.toNat:Int)=46
   ·have hc':c=46:=(Zrj (n:=46) (by decide)).2 hc
    have hp:((ptOf f s.length u true:Nat):Int)=(i:Int):=by
     rw [show ptOf f s.length u true=f+u.length from rfl];omega
    repeat' first|refine Kz ?_|intro _
    refine Post.round (i+1,u,[],true) ⟨⟨by simp only;omega,by simp only;omega⟩,⟨by simp only;rw [hts,hc'];rfl,sc.hu,by simp,by simp⟩⟩ (by simp only;omega) (by show Go.Sx.Sub _ [(0,.string ⟨s.toArray⟩),(2,.pointer (some ⟨b2,0,none⟩)),(3,.int .i64 0),(4,.int .i64 (f:Int)),(5,.int .i64 ((ptOf f s.length u true:Nat):Int)),(6,.bool (decide (numOf (u++[])=0))),(7,.int .i64 ((i+1:Nat):Int))];rw [hp];(exact Zae)) Zaa
   by_cases hd:isDig c=true
   ·have hdi:=Zds.1 hd
    have hno:∀ x∈u++[c],isDig x=true:=fun x hx=>by
     rcases List.mem_append.1 hx with hx|hx
     ·exact sc.hu x hx
     ·rw [List.mem_singleton.1 hx];exact hd
    by_cases h48:(c.toNat:Int)=48
    ·have hc':c=48:=(Zrj (n:=48) (by decide)).2 h48
     have hz:decide (numOf ((u++[c])++[])=0)=decide (numOf (u++[])=0):=by
      rw [List.append_nil,List.append_nil,Zfo hd,hc'];simp
     repeat' first|refine Kz ?_|intro _
     refine Post.round (i+1,u++[c],[],false) ⟨⟨by simp only;omega,by simp only;omega⟩,⟨by simp only;rw [hts];rfl,hno,by simp,by simp⟩⟩ (by simp only;omega) (by show Go.Sx.Sub _ [(0,.string ⟨s.toArray⟩),(2,.pointer (some ⟨b2,0,none⟩)),(3,.int .i64 0),(4,.int .i64 (f:Int)),(5,.int .i64 ((ptOf f s.length (u++[c]) false:Nat):Int)),(6,.bool (decide (numOf ((u++[c])++[])=0))),(7,.int .i64 ((i+1:Nat):Int))];rw [hz];(exact Zae)) Zaa
    ·have hc':¬ c=48:=fun h=>h48 (by rw [h];rfl)
     have hz:decide (numOf ((u++[c])++[])=0)=false:=by
      rw [List.append_nil,Zfo hd];simp [hc']
     repeat' first|refine Kz ?_|intro _
     refine Post.round (i+1,u++[c],[],false) ⟨⟨by simp only;omega,by simp only;omega⟩,⟨by simp only;rw [hts];rfl,hno,by simp,by simp⟩⟩ (by simp only;omega) (by show Go.Sx.Sub _ [(0,.string ⟨s.toArray⟩),(2,.pointer (some ⟨b2,0,none⟩)),(3,.int .i64 0),(4,.int .i64 (f:Int)),(5,.int .i64 ((ptOf f s.length (u++[c]) false:Nat):Int)),(6,.bool (decide (numOf ((u++[c])++[])=0))),(7,.int .i64 ((i+1:Nat):Int))];rw [hz];(exact Zae)) Zaa
   ·have hc':¬ c=46:=fun h=>hc (by rw [h];rfl)
    obtain ⟨r,hr⟩:∃ r,t=u++c::r:=⟨_,htd⟩
    have hO:parseP neg (Lib.cut t [46]).1 (Lib.cut t [46]).2.1 (Lib.cut t [46]).2.2=.inr 5:=by
     rw [hr];exact Q.Zxr sc.hu hc' (by simpa using hd)
    rw [hO]
    have hcl:(c.toNat:Int) < 48∨57 < (c.toNat:Int):=by
     rw [Zds] at hd;omega
    rcases hcl with hcl|hcl
    ·repeat' first|refine Kz ?_|intro _
     exact Kv
    ·have hcl2:¬ (c.toNat:Int) < 48:=by omega
     repeat' first|refine Kz ?_|intro _
     exact Kv
  | true =>
   have htk:t.take (i - f)=u++46::v:=sc.take
   rw [htk] at hts htd hkl
   rw [List.length_append,List.length_cons] at hkl
   rw [show ptOf f s.length u true=f+u.length from rfl]
   have hpl:¬ ((f+u.length:Nat):Int)=(s.length:Int):=by omega
   by_cases hd:isDig c=true
   ·have hdi:=Zds.1 hd
    have hc:¬ (c.toNat:Int)=46:=by omega
    have hno:∀ x∈v++[c],isDig x=true:=fun x hx=>by
     rcases List.mem_append.1 hx with hx|hx
     ·exact sc.hv x hx
     ·rw [List.mem_singleton.1 hx];exact hd
    by_cases h48:(c.toNat:Int)=48
    ·have hc':c=48:=(Zrj (n:=48) (by decide)).2 h48
     have hz:decide (numOf (u++(v++[c]))=0)=decide (numOf (u++v)=0):=by
      rw [← List.append_assoc,Zfo hd,hc'];simp
     repeat' first|refine Kz ?_|intro _
     refine Post.round (i+1,u,v++[c],true) ⟨⟨by simp only;omega,by simp only;omega⟩,⟨by simp only;rw [hts];simp,sc.hu,hno,by simp⟩⟩ (by simp only;omega) (by show Go.Sx.Sub _ [(0,.string ⟨s.toArray⟩),(2,.pointer (some ⟨b2,0,none⟩)),(3,.int .i64 0),(4,.int .i64 (f:Int)),(5,.int .i64 ((ptOf f s.length u true:Nat):Int)),(6,.bool (decide (numOf (u++(v++[c]))=0))),(7,.int .i64 ((i+1:Nat):Int))];rw [hz];(exact Zae)) Zaa
    ·have hc':¬ c=48:=fun h=>h48 (by rw [h];rfl)
     have hz:decide (numOf (u++(v++[c]))=0)=false:=by
      rw [← List.append_assoc,Zfo hd];simp [hc']
     repeat' first|refine Kz ?_|intro _
     refine Post.round (i+1,u,v++[c],true) ⟨⟨by simp only;omega,by simp only;omega⟩,⟨by simp only;rw [hts];simp,sc.hu,hno,by simp⟩⟩ (by simp only;omega) (by show Go.Sx.Sub _ [(0,.string ⟨s.toArray⟩),(2,.pointer (some ⟨b2,0,none⟩)),(3,.int .i64 0),(4,.int .i64 (f:Int)),(5,.int .i64 ((ptOf f s.length u true:Nat):Int)),(6,.bool (decide (numOf (u++(v++[c]))=0))),(7,.int .i64 ((i+1:Nat):Int))];rw [hz];(exact Zae)) Zaa
   ·obtain ⟨r,hr⟩:∃ r,t=u++[46]++(v++c::r):=⟨t.drop (i - f+1),htd.trans (by simp)⟩
    have hO:parseP neg (Lib.cut t [46]).1 (Lib.cut t [46]).2.1 (Lib.cut t [46]).2.2=.inr 5:=by
     rw [hr];exact Q.Zxq sc.hu (by simpa using hd)
    rw [hO]
    have hcl:(c.toNat:Int) < 48∨57 < (c.toNat:Int):=by
     rw [Zds] at hd;omega
    rcases hcl with hcl|hcl
    ·by_cases hc:(c.toNat:Int)=46
     ·repeat' first|refine Kz ?_|intro _
      exact Kv
     ·repeat' first|refine Kz ?_|intro _
      exact Kv
    ·have hcl2:¬ (c.toNat:Int) < 48:=by omega
     have hc:¬ (c.toNat:Int)=46:=by omega
     repeat' first|refine Kz ?_|intro _
     exact Kv
 obtain rfl:i=s.length:=by omega
 rw [show s.length - f=t.length by omega] at sc
 have htu:t.length=u.length+(if d then 1+v.length else 0):=by
  have:=congrArg List.length sc.take
  rw [List.take_length] at this
  cases d
  ·simpa using this
  ·simp at this ⊢;omega
 have hpt:ptOf f s.length u d=f+u.length:=by
  unfold ptOf
  cases d
  ·simp at htu ⊢;omega
  ·rfl
 have hO:Q.parseO (parseP neg (Lib.cut t [46]).1 (Lib.cut t [46]).2.1 (Lib.cut t [46]).2.2)=(match Q.refP neg u v d with|none=>([],[],5)|some r=>outF r):=by
  refine Eq.trans ?_ (Q.Zyb sc.hu sc.hv sc.no)
  have h46:∀ x∈u,x≠46:=fun x hx=>Zmg (sc.hu x hx)
  have htk:=sc.take
  rw [List.take_length] at htk
  cases d with
  | false=>rw [htk,sc.no rfl];simp only [Bool.false_eq_true,if_false];rw [Zk7 h46]
  | true=>rw [htk];simp only [if_true];rw [show u++46::v=u++[46]++v by simp,Zk8 h46]
 rw [hO,hpt]
 have htk:t=if d then u++46::v else u:=by
  have:=sc.take
  rwa [List.take_length] at this
 have hno:=sc.no
 have hdu:=sc.hu
 have hdv:=sc.hv
 clear hO sc hpt
 have hN:(u=[]∨(1 < u.length∧u[0]?=some 48)∨(neg=true∧numOf (u++v)=0)∨(d=true∧(v.length < 1∨20 < v.length)))→Q.refP neg u v d=none:=fun h=>by unfold Q.refP;rw [if_pos h]
 have hY:¬ (u=[]∨(1 < u.length∧u[0]?=some 48)∨(neg=true∧numOf (u++v)=0)∨(d=true∧(v.length < 1∨20 < v.length)))→Q.refP neg u v d=some (mkRat (if neg then -(numOf (u++v):Int) else (numOf (u++v):Int)) (10 ^ v.length)):=fun h=>by unfold Q.refP;rw [if_neg h]
 repeat' first|refine Kz ?_|intro _
 refine Tri.mid (fun e' As'=>e'=[(0,.string ⟨s.toArray⟩),(2,.pointer (some ⟨b2,0,none⟩)),(3,.int .i64 0),(4,.int .i64 (f:Int)),(5,.int .i64 ((f+u.length:Nat):Int)),(6,.bool (decide (numOf (u++v)=0))),(8,.int .i64 (v.length:Int))]∧As'=.cl b2 [.string ⟨#[]⟩,.string ⟨#[]⟩] 24::As∧¬ (d=true∧(v.length < 1∨20 < v.length))) ?_ ?_
 ·cases d with
  | false =>
   obtain rfl:=hno rfl
   have e:((f+u.length:Nat):Int)=(s.length:Int):=by simp at htu;omega
   repeat' first|refine Kz ?_|intro _
   exact Post.cut _ _ ⟨rfl,rfl,by simp⟩ Zae Zaa
  | true =>
   simp only [if_true] at htu
   have e:¬ ((f+u.length:Nat):Int)=(s.length:Int):=by omega
   rw [show (s.length:Int) - ((f+u.length:Nat):Int) - 1=(v.length:Int) by omega]
   by_cases h4a:(v.length:Int) < 1
   ·rw [hN (.inr (.inr (.inr ⟨rfl,.inl (by omega)⟩)))]
    repeat' first|refine Kz ?_|intro _
    exact Kv
   by_cases h4b:(20:Int) < (v.length:Int)
   ·rw [hN (.inr (.inr (.inr ⟨rfl,.inr (by omega)⟩)))]
    repeat' first|refine Kz ?_|intro _
    exact Kv
   repeat' first|refine Kz ?_|intro _
   exact Post.cut _ _ ⟨rfl,rfl,by rintro ⟨_,h⟩;omega⟩ Zae Zaa
 rintro _ _ ⟨rfl,rfl,h4⟩
 iterate 1 refine Stp.h ?_
 refine Tri.cut (fun e' As'=>e'=[(0,.string ⟨s.toArray⟩),(2,.pointer (some ⟨b2,0,none⟩)),(3,.int .i64 0),(4,.int .i64 (f:Int)),(5,.int .i64 ((f+u.length:Nat):Int)),(8,.int .i64 (v.length:Int))]∧As'=.cl b2 [.string ⟨#[]⟩,.string ⟨#[]⟩] 24::As∧u≠[]∧¬ (neg=true∧numOf (u++v)=0)∧Q.refP neg u v d=some (mkRat (if neg then -(numOf (u++v):Int) else (numOf (u++v):Int)) (10 ^ v.length))) ?_ ?_
 ·by_cases hu0:u=[]
  ·rw [hN (.inl hu0)]
   have e:((f+u.length:Nat):Int)=(f:Int):=by rw [hu0];rfl
   repeat' first|refine Kz ?_|intro _
   exact Kv
  have hul:0 < u.length:=List.length_pos_iff.2 hu0
  obtain ⟨u0,hu00⟩:∃ c,u[0]?=some c:=⟨_,List.getElem?_eq_getElem hul⟩
  have hsf:s[f]?=some u0:=by
   refine hget 0 u0 ?_
   rw [htk]
   cases d
   ·exact hu00
   ·simp only [if_true];rw [List.getElem?_append_left hul];exact hu00
  have e:¬ ((f+u.length:Nat):Int)=(f:Int):=by omega
  have e48:u0=48↔(u0.toNat:Int)=48:=Zrj (n:=48) (by decide)
  by_cases h1:(f:Int)+1 < ((f+u.length:Nat):Int)∧(u0.toNat:Int)=48
  ·obtain ⟨h1,h48⟩:=h1
   rw [hN (.inr (.inl ⟨by omega,by rw [hu00,e48.2 h48]⟩))]
   repeat' first|refine Kz ?_|intro _
   exact Kv
  by_cases h3:(f:Int)=1∧numOf (u++v)=0
  ·obtain ⟨h31,h32⟩:=h3
   rw [hN (.inr (.inr (.inl ⟨hfn.1 h31,h32⟩)))]
   by_cases h5:(f:Int)+1 < ((f+u.length:Nat):Int)
   ·have h48:¬ (u0.toNat:Int)=48:=fun h=>h1 ⟨h5,h⟩
    repeat' first|refine Kz ?_|intro _
    exact Kv
   ·repeat' first|refine Kz ?_|intro _
    exact Kv
  have h3':¬ (neg=true∧numOf (u++v)=0):=fun h=>h3 ⟨hfn.2 h.1,h.2⟩
  have hR:=hY (by
   rintro (h|h|h|h)
   ·exact hu0 h
   ·exact h1 ⟨by omega,e48.1 (Option.some.inj (hu00.symm.trans h.2))⟩
   ·exact h3' h
   ·exact h4 h)
  by_cases h5:(f:Int)+1 < ((f+u.length:Nat):Int)
  ·have h48:¬ (u0.toNat:Int)=48:=fun h=>h1 ⟨h5,h⟩
   by_cases h6:numOf (u++v)=0
   ·have h7:¬ (f:Int)=1:=fun h=>h3 ⟨h,h6⟩
    repeat' first|refine Kz ?_|intro _
    exact Post.cut _ _ ⟨rfl,rfl,hu0,h3',hR⟩ Zae Zaa
   ·repeat' first|refine Kz ?_|intro _
    exact Post.cut _ _ ⟨rfl,rfl,hu0,h3',hR⟩ Zae Zaa
  ·by_cases h6:numOf (u++v)=0
   ·have h7:¬ (f:Int)=1:=fun h=>h3 ⟨h,h6⟩
    repeat' first|refine Kz ?_|intro _
    exact Post.cut _ _ ⟨rfl,rfl,hu0,h3',hR⟩ Zae Zaa
   ·repeat' first|refine Kz ?_|intro _
    exact Post.cut _ _ ⟨rfl,rfl,hu0,h3',hR⟩ Zae Zaa
 rintro _ _ ⟨rfl,rfl,hu0,h3,hR⟩
 rw [hR]
 clear hR hN hY
 simp only
 have hul:0 < u.length:=List.length_pos_iff.2 hu0
 have e9:(f:Int) < ((f+u.length:Nat):Int):=by omega
 have hv20:v.length≤20:=by
  cases d with
  | false=>rw [hno rfl];simp
  | true=>exact Nat.not_lt.1 fun h=>h4 ⟨rfl,.inr h⟩
 have hsl1:(s.drop f).take (f+u.length - f)=u:=by
  rw [hdrop,htk,show f+u.length - f=u.length by omega]
  cases d<;>simp
 have hul9:u.length≤1000:=by omega
 repeat' first|refine Kz ?_|intro _
 rename_i b9
 refine Tri.ents (Za1 (T:=3) (cN .i64)) ?_
 refine Tri.ents (show Ents _ (.ft (rd (cN .i64) (.slice none 0 0) (qud ((0:Nat):Int).natAbs))::_) from by rw [Znc];exact Ents.freeze) ?_
 repeat' first|refine Kz ?_|intro _
 refine Zbg [] [(4,.c b9)] (.take 0 (.take 1 (.take 2 (.take 3 (.take 4 (.all [(5,.all [(6,.done)])])))))) ?_
 repeat' first|refine Kf ?_|intro _|constructor
 refine TT.take rfl rfl rfl (Zep (lo:=f) (hi:=f+u.length) rfl (Zck rfl) (Zb7 rfl) (by omega) (by omega)) ?_
 rw [hsl1]
 repeat' first|refine Kf ?_|intro _|constructor
 refine T1.callv rfl rfl rfl rfl rfl (Q.Zw2 (s:=u) (v:=.slice none 0 0) (n0:=0) (m:=0) hdu hul9 (by decide) (by decide)) ?_
 rw [Zse]
 rintro _ _ ⟨p1,c1,rfl,rfl⟩
 repeat' first|refine Kf ?_|intro _|constructor
 refine Tri.mid (fun e' As'=>∃ p c,e'=[(0,.string ⟨s.toArray⟩),(2,.pointer (some ⟨b2,0,none⟩)),(3,.int .i64 0),(4,.int .i64 (f:Int)),(8,.int .i64 (v.length:Int)),(9,.pointer (some ⟨b9,0,none⟩))]∧As'=.cl b9 [.bool (decide (((numOf (u++v):Nat):Int) < 0)),.slice p (qud ((numOf (u++v):Nat):Int).natAbs).length c] 115::.ft (rd (cN .i64) (.slice p (qud ((numOf (u++v):Nat):Int).natAbs).length c) (qud ((numOf (u++v):Nat):Int).natAbs))::.cl b2 [.string ⟨#[]⟩,.string ⟨#[]⟩] 24::As) ?_ ?_
 ·cases d with
  | false =>
   obtain rfl:=hno rfl
   simp at htu
   have e:¬ ((f+u.length:Nat):Int) < (s.length:Int):=by omega
   repeat' first|refine Kz ?_|intro _
   rw [List.append_nil]
   exact Post.cut _ _ ⟨p1,c1,rfl,rfl⟩ Zae Zaa
  | true =>
   simp only [if_true] at htu htk
   have e:((f+u.length:Nat):Int) < (s.length:Int):=by omega
   have hsl2:s.drop (f+u.length+1)=v:=by
    rw [show f+u.length+1=f+(u.length+1) by omega,← List.drop_drop,hdrop,htk,← List.drop_drop]
    simp
   repeat' first|refine Kz ?_|intro _
   refine Zbg [] [(4,.c b9)] (.take 0 (.take 1 (.take 2 (.take 3 (.take 4 (.all [(5,.all [(6,.done)])])))))) ?_
   repeat' first|refine Kf ?_|intro _|constructor
   rw [show ((f+u.length:Nat):Int)+1=((f+u.length+1:Nat):Int) by omega]
   refine TT.take rfl rfl rfl (Zd6 (lo:=f+u.length+1) rfl (Zck rfl) (by omega)) ?_
   rw [hsl2]
   repeat' first|refine Kf ?_|intro _|constructor
   refine T1.callv rfl rfl rfl rfl rfl (Q.Zw2 (s:=v) (v:=.slice p1 (qud ((numOf u:Nat):Int).natAbs).length c1) (n0:=numOf u) (m:=u.length) hdv (by omega) (by omega) (Zbn hdu)) ?_
   rw [Zuy]
   rintro _ _ ⟨p2,c2,rfl,rfl⟩
   repeat' first|refine Kf ?_|intro _|constructor
   exact Post.cut _ _ ⟨p2,c2,rfl,rfl⟩ Zae Zaa
 rintro _ _ ⟨p,c,rfl,rfl⟩
 have hN10:numOf (u++v) < 10 ^ (u.length+v.length+21):=by
  have h1:=Zbn (l:=u++v) (fun x hx=>by
   rcases List.mem_append.1 hx with hx|hx
   ·exact hdu x hx
   ·exact hdv x hx)
  rw [List.length_append] at h1
  exact Nat.lt_of_lt_of_le h1 (Nat.pow_le_pow_right (by decide) (by omega))
 generalize numOf (u++v)=N at h3 hN10 ⊢
 obtain ⟨x,hx⟩:∃ x:Int,x=if neg=true then -(N:Int) else (N:Int):=⟨_,rfl⟩
 rw [← hx]
 have hxa:x.natAbs=((N:Nat):Int).natAbs:=by rw [hx];split<;>omega
 have hbx:decide ((f:Int)=1)=decide (x < 0):=by
  rw [hx]
  cases neg with
  | true =>
   rw [decide_eq_true (hfn.2 rfl),if_pos rfl,decide_eq_true]
   have:N≠0:=fun h=>h3 ⟨rfl,h⟩
   omega
  | false =>
   rw [decide_eq_false (fun h=>by have:=hfn.1 h;cases this),decide_eq_false]
   simp
 have hxl:(qud x.natAbs).length≤1100:=by
  rw [hxa,Int.natAbs_natCast]
  exact Nat.le_trans (Zaj (k:=u.length+v.length+21) (Nat.lt_of_lt_of_le hN10 (Nat.pow_le_pow_left (by decide) _))) (by omega)
 repeat' first|refine Kz ?_|intro _
 rw [hbx,← hxa]
 have hT:((10:Int) ^ v.length).natAbs=10 ^ v.length:=by rw [Int.natAbs_pow];rfl
 have hT0:(0:Int) < (10:Int) ^ v.length:=Int.pow_pos (by decide)
 have hTl:(qud ((10:Int) ^ v.length).natAbs).length≤1100:=by
  rw [hT];exact Nat.le_trans (Q.Zz2 v.length) (by omega)
 have hmk:mkRat (if (10:Int) ^ v.length < 0 then -x else x) ((10:Int) ^ v.length).natAbs=mkRat x (10 ^ v.length):=by
  rw [if_neg (by omega),hT]
 have hfit:Fit (u.length+v.length+21) (mkRat x (10 ^ v.length)):=Zct (by omega) (by have:=Nat.pow_pos (n:=v.length) (show 0 < 10 by decide);omega) (by rw [hxa,Int.natAbs_natCast];exact hN10) (Nat.pow_lt_pow_right (by decide) (by omega))
 obtain ⟨g1,g2⟩:=hfit.qud
 refine Zbg [] [(0,.c b9)] (.take 0 (.take 1 (.all [(2,.all [(3,.all [(4,.take 5 (.take 6 (.all [(7,.take 8 (.done))])))])])]))) ?_
 repeat' first|refine Kf ?_|intro _|constructor
 refine T1.callv rfl rfl rfl rfl rfl (Q.Zy8 (n:=v.length) hv20) ?_
 rintro _ _ ⟨p3,c3,rfl,rfl⟩
 repeat' first|refine Kf ?_|intro _|constructor
 refine T1.callv rfl rfl rfl rfl rfl (Q.Zl9 (v:=.slice p (qud x.natAbs).length c) (o:=.slice p3 (qud ((10:Int) ^ v.length).natAbs).length c3) (x:=x) (y:=(10:Int) ^ v.length) (by omega) (by omega) (by omega)) ?_
 rw [hmk]
 rintro _ _ ⟨p4,c4,p5,c5,rfl,rfl⟩
 repeat' first|refine Kf ?_|intro _|constructor
 generalize mkRat x (10 ^ v.length)=r at g1 g2 ⊢
 refine Ku rfl (Q.Zks (v:=.slice p4 (qud r.num.natAbs).length c4) (o:=.slice p5 (qud (r.den:Int).natAbs).length c5) (r:=r) (by omega) (by rw [Int.natAbs_natCast];omega)) ?_
 repeat' first|refine Kf ?_|intro _|constructor
 exact Kv
end Go.Proofs.YtciadfpomkdlnaaGreatDoor
