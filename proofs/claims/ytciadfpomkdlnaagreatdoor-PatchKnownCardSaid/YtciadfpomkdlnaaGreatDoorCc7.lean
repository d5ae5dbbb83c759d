/- Walks: frac. -/
import Derived.Lib.IndexMore
import Derived.Lib.TrimByte
import Derived.Test.YtciadfpomkdlnaaGreatDoorCc5
set_option maxHeartbeats 1000000
namespace Go.Sx
open Go
theorem Zj8 {p:UInt8→Bool}:∀ {l:List UInt8},l.dropWhile p=[]↔∀ x∈l,p x=true
 | []=>by simp
 | a :: l=>by
  rw [List.dropWhile_cons]
  split
  ·rename_i h
   rw [Zj8,List.forall_mem_cons]
   exact ⟨fun k=>⟨h,k⟩,fun k=>k.2⟩
  ·rename_i h
   rw [List.forall_mem_cons]
   exact ⟨fun k=>(by cases k),fun k=>absurd k.1 h⟩
theorem Zl2 {p:UInt8→Bool}:∀ {l:List UInt8} {a:UInt8} {r:List UInt8},l.dropWhile p=a::r→p a=false
 | [],_,_,h=>by cases h
 | b :: l,a,r,h=>by
  rw [List.dropWhile_cons] at h
  split at h
  ·exact Zl2 h
  ·rename_i hb
   cases h
   exact Bool.eq_false_iff.2 hb
theorem Zgu {l:List UInt8} {c:UInt8}:Lib.trimB l c=[]↔∀ x∈l,x=c:=by
 unfold Lib.trimB Lib.trimLeftB Lib.trimRightB
 rw [Zj8]
 constructor
 ·intro h
  have h1:l.reverse.dropWhile (· == c)=[]:=by
   cases hr:l.reverse.dropWhile (· == c) with
   | nil=>rfl
   | cons a r =>
    have h2:=h a (by rw [hr];simp)
    rw [Zl2 hr] at h2
    cases h2
  rw [Zj8] at h1
  intro x hx
  simpa using h1 x (by simpa using hx)
 ·intro h x hx
  have h1:l.reverse.dropWhile (· == c)=[]:=Zj8.2 fun y hy=>by simpa using h y (by simpa using hy)
  rw [h1] at hx
  cases hx
theorem Zfs {l:List UInt8} (hd:∀ c∈l,isDig c=true):numOf l=0↔∀ x∈l,x=48:=by
 induction l with
 | nil=>simp [Zv4]
 | cons c r ih =>
  rw [Zlq,List.forall_mem_cons]
  have hr:∀ c∈r,isDig c=true:=fun x hx=>hd x (List.mem_cons_of_mem _ hx)
  have h1:=ih hr
  have hc:=hd c (List.mem_cons_self ..)
  have h10:0 < 10 ^ r.length:=Nat.pow_pos (by decide)
  have e:dig c=0↔c=48:=by
   unfold dig
   simp only [isDig,Bool.and_eq_true,decide_eq_true_eq] at hc
   constructor
   ·intro h
    apply UInt8.toNat_inj.1
    have:(48:UInt8).toNat=48:=rfl
    omega
   ·rintro rfl;rfl
  rw [Nat.add_eq_zero_iff,Nat.mul_eq_zero,h1,e]
  constructor
  ·rintro ⟨h|h,k⟩
   ·exact ⟨h,k⟩
   ·omega
  ·rintro ⟨h,k⟩;exact ⟨.inl h,k⟩
theorem Zc8 {l:List UInt8} (hd:∀ c∈l,isDig c=true):(mag (numOf l)).length≤l.length :=
 Zcz (Nat.lt_of_lt_of_le (Zcf hd) (Nat.pow_le_pow_left (by decide) _))
theorem Ze8 {k:Nat}:(mag (10 ^ k)).length≤k+1:=Zcz (by
 have h1:10 ^ k < 10 ^ (k+1):=Nat.pow_lt_pow_right (by decide) (by omega)
 exact Nat.lt_of_lt_of_le h1 (Nat.pow_le_pow_left (by decide) _))
theorem Zc9 {z:Int} {d k:Nat} (h0:d≠0) (h1:(mag z.natAbs).length≤k) (h2:(mag d).length≤k):(mag (mkRat z d).num.natAbs).length≤k∧(mag (mkRat z d).den).length≤k:=by
 obtain ⟨e1,e2⟩:=Zdd (n:=z) h0
 constructor
 ·rw [e1];exact Nat.le_trans (Zag (Int.natAbs_ediv_le_natAbs _ _)) h1
 ·rw [e2];exact Nat.le_trans (Zag (Nat.div_le_self _ _)) h2
def parseP (neg:Bool) (before behind:List UInt8) (dotted:Bool):Rat ⊕ Int :=
 if digS before=true∧¬ (1 < before.length∧before[0]?=some 48) then
  if dotted=true∧¬ (digS behind=true∧behind.length≤20) then .inr 5
  else if neg=true∧numOf (before++behind)=0 then .inr 5
  else if 600 < before.length then .inr 6
  else .inl (mkRat (if neg then -(numOf (before++behind):Int) else (numOf (before++behind):Int)) (10 ^ behind.length))
 else .inr 5
def parseQ (s:List UInt8):Rat ⊕ Int :=
 parseP (Lib.hasPrefix s [45]) (Lib.cut (Lib.trimPrefix s [45]) [46]).1 (Lib.cut (Lib.trimPrefix s [45]) [46]).2.1 (Lib.cut (Lib.trimPrefix s [45]) [46]).2.2
theorem Zsi {s t:List UInt8}:(Lib.cut s t).1.length≤s.length:=by
 unfold Lib.cut
 split
 ·simp only [List.length_take];omega
 ·exact Nat.le_refl _
theorem Z0b {s t:List UInt8}:(Lib.cut s t).2.1.length≤s.length:=by
 unfold Lib.cut
 split
 ·simp only [List.length_drop];omega
 ·exact Nat.zero_le _
theorem Z4u {s t:List UInt8} (h:(Lib.cut s t).2.2=false):(Lib.cut s t).2.1=[]:=by
 unfold Lib.cut at h ⊢
 split at h
 ·cases h
 ·rename_i h1;rw [if_neg h1]
end Go.Sx
namespace Go.Proofs.YtciadfpomkdlnaaGreatDoor.Q
open Go Go.Sx
variable {w0:World} {As:List Ent}
def parseO (o:Rat ⊕ Int):List UInt8 × List UInt8 × Int:=match o with
 | .inl r=>outF r
 | .inr e=>([],[],e)
theorem Zvx (ht:Tab w0) (hm:LenR w0) {s:List UInt8} (hl:s.length≤1000000000) :
  CQ Tryz.prog w0 20 [.string ⟨s.toArray⟩] As (.tuple #[.agg #[.string ⟨(parseO (parseQ s)).1.toArray⟩,.string ⟨(parseO (parseQ s)).2.1.toArray⟩],.int .i64 (parseO (parseQ s)).2.2]):=by
 refine Zab Tryz.func20 rfl Tryz.ntmps20 rfl ?_
 repeat' first|refine Kz ?_|intro _
 rename_i b2
 refine Kt rfl Zff ?_
 repeat' first|refine Kz ?_|intro _
 have l1:(Lib.trimPrefix s [45]).length≤1000000000:=by
  have:(Lib.trimPrefix s [45]).length≤s.length:=by rw [Lib.trimPrefix];split<;>simp
  omega
 refine Ks rfl (Z2z hm (s:=Lib.trimPrefix s [45]) l1) ?_
 rw [parseQ]
 have l2:(Lib.cut (Lib.trimPrefix s [45]) [46]).1.length≤1000000000:=Nat.le_trans Zsi l1
 have l3:(Lib.cut (Lib.trimPrefix s [45]) [46]).2.1.length≤1000000000:=Nat.le_trans Z0b l1
 have hno:=@Z4u (Lib.trimPrefix s [45]) [46]
 generalize (Lib.cut (Lib.trimPrefix s [45]) [46]).1=before at l2 hno ⊢
 generalize (Lib.cut (Lib.trimPrefix s [45]) [46]).2.1=behind at l3 hno ⊢
 generalize (Lib.cut (Lib.trimPrefix s [45]) [46]).2.2=dotted at hno ⊢
 generalize Lib.hasPrefix s [45]=neg
 clear l1
 generalize Lib.trimPrefix s [45]=t
 repeat' first|refine Kz ?_|intro _
 refine Kt rfl (Zms (s:=before) l2) ?_
 rw [parseP]
 have fail5:∀ {P:Prop} [Decidable P] {a b:Rat ⊕ Int},P→b=.inr 5→(if P then b else a)=.inr 5:=fun h k=>by rw [if_pos h,k]
 have badOut:parseO (.inr 5)=([],[],5):=rfl
 cases hdb:digS before with
 | false =>
  rw [if_neg (by simp),badOut]
  repeat' first|refine Kz ?_|intro _
  exact Kv
 | true =>
  obtain ⟨hne,hdig⟩:=Zm8.1 hdb
  cases before with
  | nil=>exact absurd rfl hne
  | cons c0 r0 =>
   by_cases hz:1 < (c0::r0).length∧(c0::r0)[0]?=some 48
   ·rw [if_neg (fun h=>h.2 hz),badOut]
    obtain ⟨hz1,hz2⟩:=hz
    have hz1':(1:Int) < (c0::r0).length:=by omega
    have hc:c0=48:=by simpa using hz2
    subst hc
    repeat' first|refine Kz ?_|intro _
    exact Kv
   ·rw [if_pos ⟨rfl,hz⟩]
    clear hne hdb
    by_cases hz1:(1:Int) < (c0::r0).length
    ·have hc : ¬ (c0.toNat:Int)=48:=fun h=>hz ⟨by omega,by
      have:c0=48:=UInt8.toNat_inj.1 (by have:(48:UInt8).toNat=48:=rfl;omega)
      rw [this];rfl⟩
     have hz2:(c0::r0)[0]?=some c0:=rfl
     repeat' first|refine Kz ?_|intro _
     cases dotted with
     | false =>
      have hb0:=hno rfl
      have hbd:∀ c∈behind,48≤c.toNat∧c.toNat≤57:=by rw [hb0];simp
      have hbl:behind.length≤20:=by rw [hb0];simp
      clear hno hb0
      rw [if_neg (by simp)]
      repeat' first|refine Kz ?_|intro _
      have hall:∀ c∈c0::r0++behind,isDig c=true:=fun c hc=>by
       rw [List.mem_append] at hc
       have:48≤c.toNat∧c.toNat≤57:=hc.elim (hdig c) (hbd c)
       simp [isDig,this]
      cases neg with
      | true =>
       repeat' first|refine Kz ?_|intro _
       refine Ks rfl (Ziw (s:=c0::r0++behind) (by rw [List.length_append];omega)) ?_
       have hN:=(Zfs hall).trans (Zgu (l:=c0::r0++behind) (c:=48)).symm
       by_cases h0:numOf (c0::r0++behind)=0
       ·rw [if_pos ⟨rfl,h0⟩,badOut,hN.1 h0]
        repeat' first|refine Kz ?_|intro _
        exact Kv
       ·rw [if_neg (fun h=>h0 h.2)]
        have h1:=fun h=>h0 (hN.2 h)
        generalize Lib.trimB (c0::r0++behind) 48=q at h1 ⊢
        have hg:(true&&decide (numOf (c0::r0++behind)≠0))=decide (-(numOf (c0::r0++behind):Int) < 0):=by
         rw [Bool.true_and,decide_eq_decide];omega
        have hab:(-(numOf (c0::r0++behind):Int)).natAbs=numOf (c0::r0++behind):=by omega
        simp only [if_true]
        obtain ⟨Z,hZ⟩:∃ Z:Int,Z=-(numOf (c0::r0++behind):Int):=⟨_,rfl⟩
        rw [← hZ] at hg hab ⊢
        by_cases h600:(600:Int) < (c0::r0).length
        ·first
          | (exfalso;omega)
          | (rw [if_pos (by omega)]
             repeat' first|refine Kz ?_|intro _
             (refine Zac ?_)
             exact ⟨_,⟨rfl,rfl⟩,Zaa⟩)
        ·rw [if_neg (by omega)]
         repeat' first|refine Kz ?_|intro _
         refine Ks rfl (Zbv (c:=behind.length) (by omega)) ?_
         repeat' first|refine Kz ?_|intro _
         refine TL.callv rfl rfl rfl rfl (Za0 (l:=49::List.replicate behind.length 48) Zen (by simp) (by simp;omega)) ?_
         rw [Zgv]
         rintro _ _ ⟨pT,cT,rfl,rfl⟩
         repeat' first|refine Kz ?_|intro _
         refine TL.callv rfl rfl rfl rfl (Za0 (l:=c0::r0++behind) hall (by simp) (by rw [List.length_append];omega)) ?_
         rintro _ _ ⟨pN,cN',rfl,rfl⟩
         repeat' first|refine Kz ?_|intro _
         refine Ks rfl (Zax (v:=.slice pN (mag (numOf (c0::r0++behind))).length cN') (n:=numOf (c0::r0++behind))) ?_
         have lN:=Zc8 hall
         have lT:=Ze8 (k:=behind.length)
         have l620:(c0::r0++behind).length≤1000:=by rw [List.length_append];omega
         rw [hg]
         rw [← hab] at lN ⊢
         clear hg hab hZ
         generalize hTT:10 ^ behind.length=T0 at lT ⊢
         have hT0:T0≠0:=by rw [← hTT];exact Nat.ne_of_gt (Nat.pow_pos (by decide))
         clear hTT
         repeat' first|refine Kz ?_|intro _
         refine TL.callv rfl rfl rfl rfl (Zca (v:=.slice pN (mag Z.natAbs).length cN') (o:=.slice pT (mag T0).length cT) (n:=Z) (d:=T0) hT0 (by omega) (by omega)) ?_
         rintro _ _ ⟨p5,c5,p6,c6,rfl,rfl⟩
         have hL:Ln 1000000 (mkRat Z T0):=Zc9 hT0 (by omega) (by omega)
         repeat' first|refine Kz ?_|intro _
         refine Ks rfl (Zbm ht (mv:=.slice p5 (mag (mkRat Z T0).num.natAbs).length c5) (bv:=.slice p6 (mag (mkRat Z T0).den).length c6) (x:=mkRat Z T0) hL) ?_
         repeat' first|refine Kz ?_|intro _
         exact Kv
      | false =>
       rw [if_neg (by simp)]
       have hg:(false&&decide (numOf (c0::r0++behind)≠0))=decide ((numOf (c0::r0++behind):Int) < 0):=by
        rw [Bool.false_and,eq_comm,decide_eq_false_iff_not];omega
       have hab:((numOf (c0::r0++behind):Nat):Int).natAbs=numOf (c0::r0++behind):=by omega
       simp only [Bool.false_eq_true,if_false]
       obtain ⟨Z,hZ⟩:∃ Z:Int,Z=(numOf (c0::r0++behind):Int):=⟨_,rfl⟩
       rw [← hZ] at hg hab ⊢
       by_cases h600:(600:Int) < (c0::r0).length
       ·first
         | (exfalso;omega)
         | (rw [if_pos (by omega)]
            repeat' first|refine Kz ?_|intro _
            (refine Zac ?_)
            exact ⟨_,⟨rfl,rfl⟩,Zaa⟩)
       ·rw [if_neg (by omega)]
        repeat' first|refine Kz ?_|intro _
        refine Ks rfl (Zbv (c:=behind.length) (by omega)) ?_
        repeat' first|refine Kz ?_|intro _
        refine TL.callv rfl rfl rfl rfl (Za0 (l:=49::List.replicate behind.length 48) Zen (by simp) (by simp;omega)) ?_
        rw [Zgv]
        rintro _ _ ⟨pT,cT,rfl,rfl⟩
        repeat' first|refine Kz ?_|intro _
        refine TL.callv rfl rfl rfl rfl (Za0 (l:=c0::r0++behind) hall (by simp) (by rw [List.length_append];omega)) ?_
        rintro _ _ ⟨pN,cN',rfl,rfl⟩
        repeat' first|refine Kz ?_|intro _
        refine Ks rfl (Zax (v:=.slice pN (mag (numOf (c0::r0++behind))).length cN') (n:=numOf (c0::r0++behind))) ?_
        have lN:=Zc8 hall
        have lT:=Ze8 (k:=behind.length)
        have l620:(c0::r0++behind).length≤1000:=by rw [List.length_append];omega
        rw [hg]
        rw [← hab] at lN ⊢
        clear hg hab hZ
        generalize hTT:10 ^ behind.length=T0 at lT ⊢
        have hT0:T0≠0:=by rw [← hTT];exact Nat.ne_of_gt (Nat.pow_pos (by decide))
        clear hTT
        repeat' first|refine Kz ?_|intro _
        refine TL.callv rfl rfl rfl rfl (Zca (v:=.slice pN (mag Z.natAbs).length cN') (o:=.slice pT (mag T0).length cT) (n:=Z) (d:=T0) hT0 (by omega) (by omega)) ?_
        rintro _ _ ⟨p5,c5,p6,c6,rfl,rfl⟩
        have hL:Ln 1000000 (mkRat Z T0):=Zc9 hT0 (by omega) (by omega)
        repeat' first|refine Kz ?_|intro _
        refine Ks rfl (Zbm ht (mv:=.slice p5 (mag (mkRat Z T0).num.natAbs).length c5) (bv:=.slice p6 (mag (mkRat Z T0).den).length c6) (x:=mkRat Z T0) hL) ?_
        repeat' first|refine Kz ?_|intro _
        exact Kv
     | true =>
      repeat' first|refine Kz ?_|intro _
      refine Kt rfl (Zms (s:=behind) l3) ?_
      cases hdb2:digS behind with
      | false =>
       rw [if_pos ⟨rfl,by simp⟩]
       repeat' first|refine Kz ?_|intro _
       exact Kv
      | true =>
       by_cases hbl:(20:Int) < behind.length
       ·rw [if_pos ⟨rfl,by omega⟩]
        repeat' first|refine Kz ?_|intro _
        exact Kv
       ·rw [if_neg (by simp;omega)]
        have hbd:=(Zm8.1 hdb2).2
        repeat' first|refine Kz ?_|intro _
        have hall:∀ c∈c0::r0++behind,isDig c=true:=fun c hc=>by
         rw [List.mem_append] at hc
         have:48≤c.toNat∧c.toNat≤57:=hc.elim (hdig c) (hbd c)
         simp [isDig,this]
        cases neg with
        | true =>
         repeat' first|refine Kz ?_|intro _
         refine Ks rfl (Ziw (s:=c0::r0++behind) (by rw [List.length_append];omega)) ?_
         have hN:=(Zfs hall).trans (Zgu (l:=c0::r0++behind) (c:=48)).symm
         by_cases h0:numOf (c0::r0++behind)=0
         ·rw [if_pos ⟨rfl,h0⟩,badOut,hN.1 h0]
          repeat' first|refine Kz ?_|intro _
          exact Kv
         ·rw [if_neg (fun h=>h0 h.2)]
          have h1:=fun h=>h0 (hN.2 h)
          generalize Lib.trimB (c0::r0++behind) 48=q at h1 ⊢
          have hg:(true&&decide (numOf (c0::r0++behind)≠0))=decide (-(numOf (c0::r0++behind):Int) < 0):=by
           rw [Bool.true_and,decide_eq_decide];omega
          have hab:(-(numOf (c0::r0++behind):Int)).natAbs=numOf (c0::r0++behind):=by omega
          simp only [if_true]
          obtain ⟨Z,hZ⟩:∃ Z:Int,Z=-(numOf (c0::r0++behind):Int):=⟨_,rfl⟩
          rw [← hZ] at hg hab ⊢
          by_cases h600:(600:Int) < (c0::r0).length
          ·first
            | (exfalso;omega)
            | (rw [if_pos (by omega)]
               repeat' first|refine Kz ?_|intro _
               (refine Zac ?_)
               exact ⟨_,⟨rfl,rfl⟩,Zaa⟩)
          ·rw [if_neg (by omega)]
           repeat' first|refine Kz ?_|intro _
           refine Ks rfl (Zbv (c:=behind.length) (by omega)) ?_
           repeat' first|refine Kz ?_|intro _
           refine TL.callv rfl rfl rfl rfl (Za0 (l:=49::List.replicate behind.length 48) Zen (by simp) (by simp;omega)) ?_
           rw [Zgv]
           rintro _ _ ⟨pT,cT,rfl,rfl⟩
           repeat' first|refine Kz ?_|intro _
           refine TL.callv rfl rfl rfl rfl (Za0 (l:=c0::r0++behind) hall (by simp) (by rw [List.length_append];omega)) ?_
           rintro _ _ ⟨pN,cN',rfl,rfl⟩
           repeat' first|refine Kz ?_|intro _
           refine Ks rfl (Zax (v:=.slice pN (mag (numOf (c0::r0++behind))).length cN') (n:=numOf (c0::r0++behind))) ?_
           have lN:=Zc8 hall
           have lT:=Ze8 (k:=behind.length)
           have l620:(c0::r0++behind).length≤1000:=by rw [List.length_append];omega
           rw [hg]
           rw [← hab] at lN ⊢
           clear hg hab hZ
           generalize hTT:10 ^ behind.length=T0 at lT ⊢
           have hT0:T0≠0:=by rw [← hTT];exact Nat.ne_of_gt (Nat.pow_pos (by decide))
           clear hTT
           repeat' first|refine Kz ?_|intro _
           refine TL.callv rfl rfl rfl rfl (Zca (v:=.slice pN (mag Z.natAbs).length cN') (o:=.slice pT (mag T0).length cT) (n:=Z) (d:=T0) hT0 (by omega) (by omega)) ?_
           rintro _ _ ⟨p5,c5,p6,c6,rfl,rfl⟩
           have hL:Ln 1000000 (mkRat Z T0):=Zc9 hT0 (by omega) (by omega)
           repeat' first|refine Kz ?_|intro _
           refine Ks rfl (Zbm ht (mv:=.slice p5 (mag (mkRat Z T0).num.natAbs).length c5) (bv:=.slice p6 (mag (mkRat Z T0).den).length c6) (x:=mkRat Z T0) hL) ?_
           repeat' first|refine Kz ?_|intro _
           exact Kv
        | false =>
         rw [if_neg (by simp)]
         have hg:(false&&decide (numOf (c0::r0++behind)≠0))=decide ((numOf (c0::r0++behind):Int) < 0):=by
          rw [Bool.false_and,eq_comm,decide_eq_false_iff_not];omega
         have hab:((numOf (c0::r0++behind):Nat):Int).natAbs=numOf (c0::r0++behind):=by omega
         simp only [Bool.false_eq_true,if_false]
         obtain ⟨Z,hZ⟩:∃ Z:Int,Z=(numOf (c0::r0++behind):Int):=⟨_,rfl⟩
         rw [← hZ] at hg hab ⊢
         by_cases h600:(600:Int) < (c0::r0).length
         ·first
           | (exfalso;omega)
           | (rw [if_pos (by omega)]
              repeat' first|refine Kz ?_|intro _
              (refine Zac ?_)
              exact ⟨_,⟨rfl,rfl⟩,Zaa⟩)
         ·rw [if_neg (by omega)]
          repeat' first|refine Kz ?_|intro _
          refine Ks rfl (Zbv (c:=behind.length) (by omega)) ?_
          repeat' first|refine Kz ?_|intro _
          refine TL.callv rfl rfl rfl rfl (Za0 (l:=49::List.replicate behind.length 48) Zen (by simp) (by simp;omega)) ?_
          rw [Zgv]
          rintro _ _ ⟨pT,cT,rfl,rfl⟩
          repeat' first|refine Kz ?_|intro _
          refine TL.callv rfl rfl rfl rfl (Za0 (l:=c0::r0++behind) hall (by simp) (by rw [List.length_append];omega)) ?_
          rintro _ _ ⟨pN,cN',rfl,rfl⟩
          repeat' first|refine Kz ?_|intro _
          refine Ks rfl (Zax (v:=.slice pN (mag (numOf (c0::r0++behind))).length cN') (n:=numOf (c0::r0++behind))) ?_
          have lN:=Zc8 hall
          have lT:=Ze8 (k:=behind.length)
          have l620:(c0::r0++behind).length≤1000:=by rw [List.length_append];omega
          rw [hg]
          rw [← hab] at lN ⊢
          clear hg hab hZ
          generalize hTT:10 ^ behind.length=T0 at lT ⊢
          have hT0:T0≠0:=by rw [← hTT];exact Nat.ne_of_gt (Nat.pow_pos (by decide))
          clear hTT
          repeat' first|refine Kz ?_|intro _
          refine TL.callv rfl rfl rfl rfl (Zca (v:=.slice pN (mag Z.natAbs).length cN') (o:=.slice pT (mag T0).length cT) (n:=Z) (d:=T0) hT0 (by omega) (by omega)) ?_
          rintro _ _ ⟨p5,c5,p6,c6,rfl,rfl⟩
          have hL:Ln 1000000 (mkRat Z T0):=Zc9 hT0 (by omega) (by omega)
          repeat' first|refine Kz ?_|intro _
          refine Ks rfl (Zbm ht (mv:=.slice p5 (mag (mkRat Z T0).num.natAbs).length c5) (bv:=.slice p6 (mag (mkRat Z T0).den).length c6) (x:=mkRat Z T0) hL) ?_
          repeat' first|refine Kz ?_|intro _
          exact Kv
    ·repeat' first|refine Kz ?_|intro _
     cases dotted with
     | false =>
      have hb0:=hno rfl
      have hbd:∀ c∈behind,48≤c.toNat∧c.toNat≤57:=by rw [hb0];simp
      have hbl:behind.length≤20:=by rw [hb0];simp
      clear hno hb0
      rw [if_neg (by simp)]
      repeat' first|refine Kz ?_|intro _
      have hall:∀ c∈c0::r0++behind,isDig c=true:=fun c hc=>by
       rw [List.mem_append] at hc
       have:48≤c.toNat∧c.toNat≤57:=hc.elim (hdig c) (hbd c)
       simp [isDig,this]
      cases neg with
      | true =>
       repeat' first|refine Kz ?_|intro _
       refine Ks rfl (Ziw (s:=c0::r0++behind) (by rw [List.length_append];omega)) ?_
       have hN:=(Zfs hall).trans (Zgu (l:=c0::r0++behind) (c:=48)).symm
       by_cases h0:numOf (c0::r0++behind)=0
       ·rw [if_pos ⟨rfl,h0⟩,badOut,hN.1 h0]
        repeat' first|refine Kz ?_|intro _
        exact Kv
       ·rw [if_neg (fun h=>h0 h.2)]
        have h1:=fun h=>h0 (hN.2 h)
        generalize Lib.trimB (c0::r0++behind) 48=q at h1 ⊢
        have hg:(true&&decide (numOf (c0::r0++behind)≠0))=decide (-(numOf (c0::r0++behind):Int) < 0):=by
         rw [Bool.true_and,decide_eq_decide];omega
        have hab:(-(numOf (c0::r0++behind):Int)).natAbs=numOf (c0::r0++behind):=by omega
        simp only [if_true]
        obtain ⟨Z,hZ⟩:∃ Z:Int,Z=-(numOf (c0::r0++behind):Int):=⟨_,rfl⟩
        rw [← hZ] at hg hab ⊢
        by_cases h600:(600:Int) < (c0::r0).length
        ·first
          | (exfalso;omega)
          | (rw [if_pos (by omega)]
             repeat' first|refine Kz ?_|intro _
             (refine Zac ?_)
             exact ⟨_,⟨rfl,rfl⟩,Zaa⟩)
        ·rw [if_neg (by omega)]
         repeat' first|refine Kz ?_|intro _
         refine Ks rfl (Zbv (c:=behind.length) (by omega)) ?_
         repeat' first|refine Kz ?_|intro _
         refine TL.callv rfl rfl rfl rfl (Za0 (l:=49::List.replicate behind.length 48) Zen (by simp) (by simp;omega)) ?_
         rw [Zgv]
         rintro _ _ ⟨pT,cT,rfl,rfl⟩
         repeat' first|refine Kz ?_|intro _
         refine TL.callv rfl rfl rfl rfl (Za0 (l:=c0::r0++behind) hall (by simp) (by rw [List.length_append];omega)) ?_
         rintro _ _ ⟨pN,cN',rfl,rfl⟩
         repeat' first|refine Kz ?_|intro _
         refine Ks rfl (Zax (v:=.slice pN (mag (numOf (c0::r0++behind))).length cN') (n:=numOf (c0::r0++behind))) ?_
         have lN:=Zc8 hall
         have lT:=Ze8 (k:=behind.length)
         have l620:(c0::r0++behind).length≤1000:=by rw [List.length_append];omega
         rw [hg]
         rw [← hab] at lN ⊢
         clear hg hab hZ
         generalize hTT:10 ^ behind.length=T0 at lT ⊢
         have hT0:T0≠0:=by rw [← hTT];exact Nat.ne_of_gt (Nat.pow_pos (by decide))
         clear hTT
         repeat' first|refine Kz ?_|intro _
         refine TL.callv rfl rfl rfl rfl (Zca (v:=.slice pN (mag Z.natAbs).length cN') (o:=.slice pT (mag T0).length cT) (n:=Z) (d:=T0) hT0 (by omega) (by omega)) ?_
         rintro _ _ ⟨p5,c5,p6,c6,rfl,rfl⟩
         have hL:Ln 1000000 (mkRat Z T0):=Zc9 hT0 (by omega) (by omega)
         repeat' first|refine Kz ?_|intro _
         refine Ks rfl (Zbm ht (mv:=.slice p5 (mag (mkRat Z T0).num.natAbs).length c5) (bv:=.slice p6 (mag (mkRat Z T0).den).length c6) (x:=mkRat Z T0) hL) ?_
         repeat' first|refine Kz ?_|intro _
         exact Kv
      | false =>
       rw [if_neg (by simp)]
       have hg:(false&&decide (numOf (c0::r0++behind)≠0))=decide ((numOf (c0::r0++behind):Int) < 0):=by
        rw [Bool.false_and,eq_comm,decide_eq_false_iff_not];omega
       have hab:((numOf (c0::r0++behind):Nat):Int).natAbs=numOf (c0::r0++behind):=by omega
       simp only [Bool.false_eq_true,if_false]
       obtain ⟨Z,hZ⟩:∃ Z:Int,Z=(numOf (c0::r0++behind):Int):=⟨_,rfl⟩
       rw [← hZ] at hg hab ⊢
       by_cases h600:(600:Int) < (c0::r0).length
       ·first
         | (exfalso;omega)
         | (rw [if_pos (by omega)]
            repeat' first|refine Kz ?_|intro _
            (refine Zac ?_)
            exact ⟨_,⟨rfl,rfl⟩,Zaa⟩)
       ·rw [if_neg (by omega)]
        repeat' first|refine Kz ?_|intro _
        refine Ks rfl (Zbv (c:=behind.length) (by omega)) ?_
        repeat' first|refine Kz ?_|intro _
        refine TL.callv rfl rfl rfl rfl (Za0 (l:=49::List.replicate behind.length 48) Zen (by simp) (by simp;omega)) ?_
        rw [Zgv]
        rintro _ _ ⟨pT,cT,rfl,rfl⟩
        repeat' first|refine Kz ?_|intro _
        refine TL.callv rfl rfl rfl rfl (Za0 (l:=c0::r0++behind) hall (by simp) (by rw [List.length_append];omega)) ?_
        rintro _ _ ⟨pN,cN',rfl,rfl⟩
        repeat' first|refine Kz ?_|intro _
        refine Ks rfl (Zax (v:=.slice pN (mag (numOf (c0::r0++behind))).length cN') (n:=numOf (c0::r0++behind))) ?_
        have lN:=Zc8 hall
        have lT:=Ze8 (k:=behind.length)
        have l620:(c0::r0++behind).length≤1000:=by rw [List.length_append];omega
        rw [hg]
        rw [← hab] at lN ⊢
        clear hg hab hZ
        generalize hTT:10 ^ behind.length=T0 at lT ⊢
        have hT0:T0≠0:=by rw [← hTT];exact Nat.ne_of_gt (Nat.pow_pos (by decide))
        clear hTT
        repeat' first|refine Kz ?_|intro _
        refine TL.callv rfl rfl rfl rfl (Zca (v:=.slice pN (mag Z.natAbs).length cN') (o:=.slice pT (mag T0).length cT) (n:=Z) (d:=T0) hT0 (by omega) (by omega)) ?_
        rintro _ _ ⟨p5,c5,p6,c6,rfl,rfl⟩
        have hL:Ln 1000000 (mkRat Z T0):=Zc9 hT0 (by omega) (by omega)
        repeat' first|refine Kz ?_|intro _
        refine Ks rfl (Zbm ht (mv:=.slice p5 (mag (mkRat Z T0).num.natAbs).length c5) (bv:=.slice p6 (mag (mkRat Z T0).den).length c6) (x:=mkRat Z T0) hL) ?_
        repeat' first|refine Kz ?_|intro _
        exact Kv
     | true =>
      repeat' first|refine Kz ?_|intro _
      refine Kt rfl (Zms (s:=behind) l3) ?_
      cases hdb2:digS behind with
      | false =>
       rw [if_pos ⟨rfl,by simp⟩]
       repeat' first|refine Kz ?_|intro _
       exact Kv
      | true =>
       by_cases hbl:(20:Int) < behind.length
       ·rw [if_pos ⟨rfl,by omega⟩]
        repeat' first|refine Kz ?_|intro _
        exact Kv
       ·rw [if_neg (by simp;omega)]
        have hbd:=(Zm8.1 hdb2).2
        repeat' first|refine Kz ?_|intro _
        have hall:∀ c∈c0::r0++behind,isDig c=true:=fun c hc=>by
         rw [List.mem_append] at hc
         have:48≤c.toNat∧c.toNat≤57:=hc.elim (hdig c) (hbd c)
         simp [isDig,this]
        cases neg with
        | true =>
         repeat' first|refine Kz ?_|intro _
         refine Ks rfl (Ziw (s:=c0::r0++behind) (by rw [List.length_append];omega)) ?_
         have hN:=(Zfs hall).trans (Zgu (l:=c0::r0++behind) (c:=48)).symm
         by_cases h0:numOf (c0::r0++behind)=0
         ·rw [if_pos ⟨rfl,h0⟩,badOut,hN.1 h0]
          repeat' first|refine Kz ?_|intro _
          exact Kv
         ·rw [if_neg (fun h=>h0 h.2)]
          have h1:=fun h=>h0 (hN.2 h)
          generalize Lib.trimB (c0::r0++behind) 48=q at h1 ⊢
          have hg:(true&&decide (numOf (c0::r0++behind)≠0))=decide (-(numOf (c0::r0++behind):Int) < 0):=by
           rw [Bool.true_and,decide_eq_decide];omega
          have hab:(-(numOf (c0::r0++behind):Int)).natAbs=numOf (c0::r0++behind):=by omega
          simp only [if_true]
          obtain ⟨Z,hZ⟩:∃ Z:Int,Z=-(numOf (c0::r0++behind):Int):=⟨_,rfl⟩
          rw [← hZ] at hg hab ⊢
          by_cases h600:(600:Int) < (c0::r0).length
          ·first
            | (exfalso;omega)
            | (rw [if_pos (by omega)]
               repeat' first|refine Kz ?_|intro _
               (refine Zac ?_)
               exact ⟨_,⟨rfl,rfl⟩,Zaa⟩)
          ·rw [if_neg (by omega)]
           repeat' first|refine Kz ?_|intro _
           refine Ks rfl (Zbv (c:=behind.length) (by omega)) ?_
           repeat' first|refine Kz ?_|intro _
           refine TL.callv rfl rfl rfl rfl (Za0 (l:=49::List.replicate behind.length 48) Zen (by simp) (by simp;omega)) ?_
           rw [Zgv]
           rintro _ _ ⟨pT,cT,rfl,rfl⟩
           repeat' first|refine Kz ?_|intro _
           refine TL.callv rfl rfl rfl rfl (Za0 (l:=c0::r0++behind) hall (by simp) (by rw [List.length_append];omega)) ?_
           rintro _ _ ⟨pN,cN',rfl,rfl⟩
           repeat' first|refine Kz ?_|intro _
           refine Ks rfl (Zax (v:=.slice pN (mag (numOf (c0::r0++behind))).length cN') (n:=numOf (c0::r0++behind))) ?_
           have lN:=Zc8 hall
           have lT:=Ze8 (k:=behind.length)
           have l620:(c0::r0++behind).length≤1000:=by rw [List.length_append];omega
           rw [hg]
           rw [← hab] at lN ⊢
           clear hg hab hZ
           generalize hTT:10 ^ behind.length=T0 at lT ⊢
           have hT0:T0≠0:=by rw [← hTT];exact Nat.ne_of_gt (Nat.pow_pos (by decide))
           clear hTT
           repeat' first|refine Kz ?_|intro _
           refine TL.callv rfl rfl rfl rfl (Zca (v:=.slice pN (mag Z.natAbs).length cN') (o:=.slice pT (mag T0).length cT) (n:=Z) (d:=T0) hT0 (by omega) (by omega)) ?_
           rintro _ _ ⟨p5,c5,p6,c6,rfl,rfl⟩
           have hL:Ln 1000000 (mkRat Z T0):=Zc9 hT0 (by omega) (by omega)
           repeat' first|refine Kz ?_|intro _
           refine Ks rfl (Zbm ht (mv:=.slice p5 (mag (mkRat Z T0).num.natAbs).length c5) (bv:=.slice p6 (mag (mkRat Z T0).den).length c6) (x:=mkRat Z T0) hL) ?_
           repeat' first|refine Kz ?_|intro _
           exact Kv
        | false =>
         rw [if_neg (by simp)]
         have hg:(false&&decide (numOf (c0::r0++behind)≠0))=decide ((numOf (c0::r0++behind):Int) < 0):=by
          rw [Bool.false_and,eq_comm,decide_eq_false_iff_not];omega
         have hab:((numOf (c0::r0++behind):Nat):Int).natAbs=numOf (c0::r0++behind):=by omega
         simp only [Bool.false_eq_true,if_false]
         obtain ⟨Z,hZ⟩:∃ Z:Int,Z=(numOf (c0::r0++behind):Int):=⟨_,rfl⟩
         rw [← hZ] at hg hab ⊢
         by_cases h600:(600:Int) < (c0::r0).length
         ·first
           | (exfalso;omega)
           | (rw [if_pos (by omega)]
              repeat' first|refine Kz ?_|intro _
              (refine Zac ?_)
              exact ⟨_,⟨rfl,rfl⟩,Zaa⟩)
         ·rw [if_neg (by omega)]
          repeat' first|refine Kz ?_|intro _
          refine Ks rfl (Zbv (c:=behind.length) (by omega)) ?_
          repeat' first|refine Kz ?_|intro _
          refine TL.callv rfl rfl rfl rfl (Za0 (l:=49::List.replicate behind.length 48) Zen (by simp) (by simp;omega)) ?_
          rw [Zgv]
          rintro _ _ ⟨pT,cT,rfl,rfl⟩
          repeat' first|refine Kz ?_|intro _
          refine TL.callv rfl rfl rfl rfl (Za0 (l:=c0::r0++behind) hall (by simp) (by rw [List.length_append];omega)) ?_
          rintro _ _ ⟨pN,cN',rfl,rfl⟩
          repeat' first|refine Kz ?_|intro _
          refine Ks rfl (Zax (v:=.slice pN (mag (numOf (c0::r0++behind))).length cN') (n:=numOf (c0::r0++behind))) ?_
          have lN:=Zc8 hall
          have lT:=Ze8 (k:=behind.length)
          have l620:(c0::r0++behind).length≤1000:=by rw [List.length_append];omega
          rw [hg]
          rw [← hab] at lN ⊢
          clear hg hab hZ
          generalize hTT:10 ^ behind.length=T0 at lT ⊢
          have hT0:T0≠0:=by rw [← hTT];exact Nat.ne_of_gt (Nat.pow_pos (by decide))
          clear hTT
          repeat' first|refine Kz ?_|intro _
          refine TL.callv rfl rfl rfl rfl (Zca (v:=.slice pN (mag Z.natAbs).length cN') (o:=.slice pT (mag T0).length cT) (n:=Z) (d:=T0) hT0 (by omega) (by omega)) ?_
          rintro _ _ ⟨p5,c5,p6,c6,rfl,rfl⟩
          have hL:Ln 1000000 (mkRat Z T0):=Zc9 hT0 (by omega) (by omega)
          repeat' first|refine Kz ?_|intro _
          refine Ks rfl (Zbm ht (mv:=.slice p5 (mag (mkRat Z T0).num.natAbs).length c5) (bv:=.slice p6 (mag (mkRat Z T0).den).length c6) (x:=mkRat Z T0) hL) ?_
          repeat' first|refine Kz ?_|intro _
          exact Kv
end Go.Proofs.YtciadfpomkdlnaaGreatDoor.Q
