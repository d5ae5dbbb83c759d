/- Walks: frac: integers. -/
import Derived.Test.YtciadfpomkdlnaaGreatDoorCb4
import Derived.Test.YtciadfpomkdlnaaGreatDoorCp1
import Derived.Test.YtciadfpomkdlnaaGreatDoorWb1
set_option maxHeartbeats 1000000
namespace Go.Sx
open Go
theorem Zpv {x:Int} {m:Nat}:decide (x * (m:Int) < 0)=(decide (x < 0)&&decide (x.natAbs * m≠0)):=by
 rw [Bool.eq_iff_iff,decide_eq_true_eq,Bool.and_eq_true,decide_eq_true_eq,decide_eq_true_eq]
 rcases Nat.eq_zero_or_pos m with h|h
 ·subst h;simp
 ·constructor
  ·intro h1
   have h2:x < 0:=by
    rcases Int.lt_or_le x 0 with h2|h2
    ·exact h2
    ·have:=Int.mul_nonneg h2 (show (0:Int)≤m by omega);omega
   exact ⟨h2,Nat.mul_ne_zero (by omega) (by omega)⟩
  ·rintro ⟨h1,_⟩
   exact Int.mul_neg_of_neg_of_pos h1 (by omega)
theorem Zom {x:Int} {d:Nat} (hd:d≠0):(x / (d:Int)).natAbs=(if x < 0∧x.natAbs % d≠0 then x.natAbs / d+1 else x.natAbs / d)∧decide (x / (d:Int) < 0)=(decide (x < 0)&&decide ((if x < 0∧x.natAbs % d≠0 then x.natAbs / d+1 else x.natAbs / d)≠0)):=by
 have hm:=Nat.div_add_mod x.natAbs d
 have hl:=Nat.mod_lt x.natAbs (Nat.pos_of_ne_zero hd)
 generalize x.natAbs / d=q at *
 generalize x.natAbs % d=r at *
 have key:x / (d:Int)=if x < 0 then (if r≠0 then -((q:Int)+1) else -(q:Int)) else (q:Int):=by
  have hc:((d * q+r:Nat):Int)=(d:Int) * (q:Int)+(r:Int):=by push_cast;rfl
  split
  ·rename_i hx
   have hx2:x=-((d:Int) * (q:Int)+(r:Int)):=by omega
   split
   ·rw [hx2]
    have e:-((d:Int) * (q:Int)+(r:Int))=((d:Int) - (r:Int))+(d:Int) * (-((q:Int)+1)):=by grind
    rw [e,Int.add_mul_ediv_left _ _ (by omega),Int.ediv_eq_zero_of_lt (by omega) (by omega),Int.zero_add]
   ·rename_i hr
    have hr:r=0:=by omega
    subst hr
    rw [hx2]
    have e:-((d:Int) * (q:Int)+((0:Nat):Int))=(d:Int) * (-(q:Int)):=by grind
    rw [e,Int.mul_ediv_cancel_left _ (by omega)]
  ·rename_i hx
   have hx2:x=(r:Int)+(d:Int) * (q:Int):=by omega
   rw [hx2,Int.add_mul_ediv_left _ _ (by omega),Int.ediv_eq_zero_of_lt (by omega) (by omega),Int.zero_add]
 rw [key]
 by_cases hx:x < 0
 ·by_cases hr:r≠0
  ·simp only [hx,hr,if_true,and_self,decide_true,Bool.true_and,not_false_eq_true,ne_eq]
   refine ⟨by omega,?_⟩
   rw [Bool.eq_iff_iff,decide_eq_true_eq,decide_eq_true_eq];omega
  ·simp only [hx,hr,if_true,if_false,and_false,decide_true,Bool.true_and]
   refine ⟨by omega,?_⟩
   rw [Bool.eq_iff_iff,decide_eq_true_eq,decide_eq_true_eq];omega
 ·simp only [hx,if_false,false_and,decide_false,Bool.false_and]
  refine ⟨by omega,?_⟩
  rw [decide_eq_false_iff_not];omega
end Go.Sx
namespace Go.Proofs.YtciadfpomkdlnaaGreatDoor.Q
open Go Go.Sx
variable {w0:World} {As:List Ent}
theorem Zax {v:Value} {n:Nat} {b:Bool} [hr:RdIn As v Nat (cN .u32) (mag n)]:CQ Tryz.prog w0 88 [v,.bool b] As (.agg #[v,.bool (b&&decide (n≠0))]):=by
 refine Zae v fun p cap hv=>?_
 subst hv
 refine Zab Tryz.func88 rfl Tryz.ntmps88 rfl ?_
 cases b
 ·repeat' first|refine Kz ?_|intro _
  exact Kv
 ·repeat' first|refine Kz ?_|intro _
  refine TL.call rfl rfl rfl Zcs ?_
  rintro _ As ⟨rfl,rfl⟩
  repeat' first|refine Kz ?_|intro _
  (refine Zac ?_)
  exact ⟨_,⟨by simp,rfl⟩,Zaa⟩
theorem Zg4 {s:List UInt8} {z:Int} (h:readW s=some z):CallsS Tryz.prog w0 145 [.string ⟨s.toArray⟩] As (SgnR As z):=by
 refine Zab Tryz.func145 rfl Tryz.ntmps145 rfl ?_
 repeat' first|refine Kz ?_|intro _
 refine TL.call rfl rfl rfl Zff ?_
 rintro _ As ⟨rfl,rfl⟩
 obtain ⟨neg,hneg⟩:∃ neg,Lib.hasPrefix s [45]=neg:=⟨_,rfl⟩
 obtain ⟨l,hll⟩:∃ l,Lib.trimPrefix s [45]=l:=⟨_,rfl⟩
 rw [hneg,hll]
 have hrw:=Zg0 hneg hll
 rw [h] at hrw
 split at hrw
 ·rename_i hc
  obtain ⟨h0,h6,hd,h48⟩:=hc
  rw [Option.some.injEq] at hrw
  have e1:z.natAbs=numOf l:=by rw [hrw];split<;>omega
  have e2:decide (z < 0)=neg:=by
   rw [hrw]
   cases neg
   ·simp
   ·have:=Zee hd h0 fun h1=>by have:=(h48 h1).1;cases this
    simp;omega
  repeat' first|refine Kz ?_|intro _
  refine TL.call rfl rfl rfl (Za0 hd h0 (by omega)) ?_
  rintro _ _ ⟨p,cap,rfl,rfl⟩
  repeat' first|refine Kz ?_|intro _
  (refine Zac ?_)
  exact ⟨_,⟨p,cap,by rw [e1,e2];rfl,by rw [e1]⟩,Zaa⟩
 ·cases hrw
theorem Zpr (ht:Tab w0) {v:Value} {z:Int} [hr:RdIn As v Nat (cN .u32) (mag z.natAbs)] (hl:(mag z.natAbs).length≤1000) :
  CQ Tryz.prog w0 130 [.agg #[v,.bool (decide (z < 0))]] As (.string ⟨(textI z).toArray⟩):=by
 refine Zae v fun pv cv hv=>?_
 subst hv
 refine Zab Tryz.func130 rfl Tryz.ntmps130 rfl ?_
 repeat' first|refine Kz ?_|intro _
 (refine Kx (fun hc=>?_) fun hc=>?_)
 ·repeat' first|refine Kz ?_|intro _
  refine TL.call rfl rfl rfl (Zdy ht hl) ?_
  rintro _ As ⟨rfl,rfl⟩
  have hdl:=Zaw z.natAbs
  have hdm:=Zd7 z.natAbs
  repeat' first|refine Kz ?_|intro _
  (refine Zac ?_)
  refine ⟨_,⟨?_,rfl⟩,Zaa⟩
  simp only [textI,Lib.itoa,if_pos hc]
  rfl
 ·repeat' first|refine Kz ?_|intro _
  refine TL.call rfl rfl rfl (Zdy ht hl) ?_
  rintro _ As ⟨rfl,rfl⟩
  repeat' first|refine Kz ?_|intro _
  (refine Zac ?_)
  refine ⟨_,⟨?_,rfl⟩,Zaa⟩
  simp only [textI,Lib.itoa,if_neg hc]
  rw [show z.natAbs=z.toNat by omega]
theorem Zu7 {v:Value} {x:Int} [hf:RdIn As v Nat (cN .u32) (mag x.natAbs)]:CQ Tryz.prog w0 146 [.agg #[v,.bool (decide (x < 0))]] As (.int .i64 (signI x)):=by
 refine Zae v fun pv cv hv=>?_
 subst hv
 refine Zab Tryz.func146 rfl Tryz.ntmps146 rfl ?_
 repeat' first|refine Kz ?_|intro _
 refine TL.call rfl rfl rfl (Zcs (n:=x.natAbs)) ?_
 rintro _ As ⟨rfl,rfl⟩
 by_cases h0:x.natAbs=0
 ·repeat' first|refine Kz ?_|intro _
  (refine Zac ?_)
  exact ⟨_,⟨by rw [signI,if_neg (by omega),if_pos (by omega)],rfl⟩,Zaa⟩
 ·by_cases h1:x < 0
  ·repeat' first|refine Kz ?_|intro _
   (refine Zac ?_)
   exact ⟨_,⟨by rw [signI,if_pos h1],rfl⟩,Zaa⟩
  ·repeat' first|refine Kz ?_|intro _
   (refine Zac ?_)
   exact ⟨_,⟨by rw [signI,if_neg h1,if_neg (by omega)],rfl⟩,Zaa⟩
theorem Zu3 {v o:Value} {x y:Int} [hf:RdIn As v Nat (cN .u32) (mag x.natAbs)] [hg:RdIn As o Nat (cN .u32) (mag y.natAbs)] (ha:(mag x.natAbs).length≤100000000) (hb:(mag y.natAbs).length≤100000000) :
  CallsS Tryz.prog w0 191 [.agg #[v,.bool (decide (x < 0))],.agg #[o,.bool (decide (y < 0))]] As (SgnR As (x+y)):=by
 refine Zae v fun pv cv hv=>Zae o fun po co ho=>?_
 subst hv ho
 refine Zab Tryz.func191 rfl Tryz.ntmps191 rfl ?_
 repeat' first|refine Kz ?_|intro _
 (refine Kx (fun hc=>?_) fun hc=>?_)
 ·have hs:(x < 0∧y < 0)∨(¬ x < 0∧¬ y < 0):=by
   by_cases h1:x < 0<;>by_cases h2:y < 0<;>simp [h1,h2] at hc<;>omega
  have e1:(x+y).natAbs=x.natAbs+y.natAbs:=by omega
  have e2:decide (x+y < 0)=(decide (x < 0)&&decide (x.natAbs+y.natAbs≠0)):=by
   rcases hs with ⟨h1,h2⟩|⟨h1,h2⟩
   ·simp only [h1,decide_true,Bool.true_and];rw [Bool.eq_iff_iff,decide_eq_true_eq,decide_eq_true_eq];omega
   ·simp only [h1,decide_false,Bool.false_and];rw [decide_eq_false_iff_not];omega
  repeat' first|refine Kz ?_|intro _
  refine Zao (.take 0 (.take 1 (.take 2 (.take 3 (.take 5 (.take 6 (.all [(4,.all [(7,.all [(8,.done)])])]))))))) ?_
  repeat' first|refine Kf ?_|intro _|constructor
  refine T1.call rfl rfl rfl rfl (Zvs ha hb) ?_
  rintro _ _ ⟨p,cap,rfl,rfl⟩
  repeat' first|refine Kf ?_|intro _|constructor
  refine Kw rfl (Zax (n:=x.natAbs+y.natAbs)) ?_
  repeat' first|refine Kf ?_|intro _|constructor
  (refine Zac ?_)
  exact ⟨_,Zge e1 e2,Zaa⟩
 ·have hs:(x < 0∧¬ y < 0)∨(¬ x < 0∧y < 0):=by
   by_cases h1:x < 0<;>by_cases h2:y < 0<;>simp [h1,h2] at hc<;>omega
  repeat' first|refine Kz ?_|intro _
  refine TL.call rfl rfl rfl (Zfy ha hb) ?_
  rintro _ As ⟨rfl,rfl⟩
  repeat' first|refine Kz ?_|intro _
  (refine Kx (fun hc=>?_) fun hc=>?_)
  ·have hlt:=Z7b.1 hc
   have e1:(x+y).natAbs=y.natAbs - x.natAbs:=by omega
   have e2:decide (x+y < 0)=(decide (y < 0)&&decide (y.natAbs - x.natAbs≠0)):=by
    by_cases h2:y < 0
    ·simp only [h2,decide_true,Bool.true_and];rw [Bool.eq_iff_iff,decide_eq_true_eq,decide_eq_true_eq];omega
    ·simp only [h2,decide_false,Bool.false_and];rw [decide_eq_false_iff_not];omega
   repeat' first|refine Kz ?_|intro _
   refine Zao (.take 0 (.take 1 (.take 2 (.take 3 (.take 5 (.take 6 (.all [(4,.all [(7,.all [(8,.done)])])]))))))) ?_
   repeat' first|refine Kf ?_|intro _|constructor
   refine T1.call rfl rfl rfl rfl (Zr0 (by omega) hb) ?_
   rintro _ _ ⟨p,cap,rfl,rfl⟩
   repeat' first|refine Kf ?_|intro _|constructor
   refine Kw rfl (Zax (n:=y.natAbs - x.natAbs)) ?_
   repeat' first|refine Kf ?_|intro _|constructor
   (refine Zac ?_)
   exact ⟨_,Zge e1 e2,Zaa⟩
  ·have hlt:¬ x.natAbs < y.natAbs:=fun h=>hc (Z7b.2 h)
   have e1:(x+y).natAbs=x.natAbs - y.natAbs:=by omega
   have e2:decide (x+y < 0)=(decide (x < 0)&&decide (x.natAbs - y.natAbs≠0)):=by
    by_cases h2:x < 0
    ·simp only [h2,decide_true,Bool.true_and];rw [Bool.eq_iff_iff,decide_eq_true_eq,decide_eq_true_eq];omega
    ·simp only [h2,decide_false,Bool.false_and];rw [decide_eq_false_iff_not];omega
   repeat' first|refine Kz ?_|intro _
   refine Zao (.take 0 (.take 1 (.take 2 (.take 3 (.take 5 (.take 6 (.all [(4,.all [(7,.all [(8,.done)])])]))))))) ?_
   repeat' first|refine Kf ?_|intro _|constructor
   refine T1.call rfl rfl rfl rfl (Zr0 (by omega) ha) ?_
   rintro _ _ ⟨p,cap,rfl,rfl⟩
   repeat' first|refine Kf ?_|intro _|constructor
   refine Kw rfl (Zax (n:=x.natAbs - y.natAbs)) ?_
   repeat' first|refine Kf ?_|intro _|constructor
   (refine Zac ?_)
   exact ⟨_,Zge e1 e2,Zaa⟩
theorem Ze4 {v o:Value} {x:Int} {m:Nat} [hf:RdIn As v Nat (cN .u32) (mag x.natAbs)] [hg:RdIn As o Nat (cN .u32) (mag m)] (ha:(mag x.natAbs).length≤100000000) (hb:(mag m).length≤100000000) :
  CallsS Tryz.prog w0 190 [.agg #[v,.bool (decide (x < 0))],o] As (SgnR As (x * (m:Int))):=by
 refine Zae v fun pv cv hv=>Zae o fun po co ho=>?_
 subst hv ho
 have e1:(x * (m:Int)).natAbs=x.natAbs * m:=by rw [Int.natAbs_mul,Int.natAbs_natCast]
 refine Zab Tryz.func190 rfl Tryz.ntmps190 rfl ?_
 repeat' first|refine Kz ?_|intro _
 refine Zao (.take 0 (.take 1 (.take 2 (.take 4 (.take 5 (.all [(3,.all [(6,.all [(7,.done)])])])))))) ?_
 repeat' first|refine Kf ?_|intro _|constructor
 refine T1.call rfl rfl rfl rfl (Zc3 (a:=x.natAbs) (b:=m) ha hb) ?_
 rintro _ _ ⟨p,cap,rfl,rfl⟩
 repeat' first|refine Kf ?_|intro _|constructor
 refine Kw rfl (Zax (n:=x.natAbs * m)) ?_
 repeat' first|refine Kf ?_|intro _|constructor
 (refine Zac ?_)
 exact ⟨_,Zge e1 Zpv,Zaa⟩
theorem Zsc {v o:Value} {x:Int} {d:Nat} [hf:FtIn As v Nat (cN .u32) (mag x.natAbs)] [hg:RdIn As o Nat (cN .u32) (mag d)] (hd:d≠0) (ha:(mag x.natAbs).length≤10000000) (hb:(mag d).length≤10000000) :
  CallsS Tryz.prog w0 129 [.agg #[v,.bool (decide (x < 0))],o] As (SgnR As (x / (d:Int))):=by
 refine Zae v fun pv cv hv=>Zae o fun po co ho=>?_
 subst hv ho
 obtain ⟨e1,e2⟩:=Zom (x:=x) hd
 have hlq:(mag (x.natAbs / d)).length≤10000000:=Nat.le_trans (Zag (Nat.div_le_self _ _)) ha
 refine Zab Tryz.func129 rfl Tryz.ntmps129 rfl ?_
 repeat' first|refine Kz ?_|intro _
 refine TL.call rfl rfl rfl (Zbr (a:=x.natAbs) (b:=d) hd ha (by omega)) ?_
 rintro _ _ ⟨p,cap,p',cap',rfl,rfl⟩
 by_cases hx:x < 0
 ·by_cases hr:x.natAbs % d=0
  ·rw [if_neg (by omega)] at e1 e2
   repeat' first|refine Kz ?_|intro _
   refine Ks rfl (Zcs (v:=.slice p' (mag (x.natAbs % d)).length cap') (n:=x.natAbs % d)) ?_
   repeat' first|refine Kz ?_|intro _
   refine Ks rfl (Zax (v:=.slice p (mag (x.natAbs / d)).length cap) (n:=x.natAbs / d)) ?_
   repeat' first|refine Kz ?_|intro _
   (refine Zac ?_)
   refine ⟨_,Zge (p:=p) (cap:=cap) e1 e2,Zaa⟩
  ·rw [if_pos ⟨hx,hr⟩] at e1 e2
   have hm1:mag 1=[1]:=Zck (by omega) (by omega)
   repeat' first|refine Kz ?_|intro _
   refine Ks rfl (Zcs (v:=.slice p' (mag (x.natAbs % d)).length cap') (n:=x.natAbs % d)) ?_
   repeat' first|refine Kz ?_|intro _
   refine TL.ents (Zaj (cN .u32) (mag 1) (by rw [hm1];rfl) (by rw [hm1]) (by rw [hm1])) ?_
   refine TL.callv rfl rfl rfl rfl (Zvs (v:=.slice p (mag (x.natAbs / d)).length cap) (a:=x.natAbs / d) (b:=1) (by omega) (by rw [hm1];simp)) ?_
   rintro _ _ ⟨p4,cap4,rfl,rfl⟩
   repeat' first|refine Kz ?_|intro _
   refine Ks rfl (Zax (v:=.slice p4 (mag (x.natAbs / d+1)).length cap4) (n:=x.natAbs / d+1)) ?_
   repeat' first|refine Kz ?_|intro _
   (refine Zac ?_)
   refine ⟨_,Zge (p:=p4) (cap:=cap4) e1 e2,Zaa⟩
 ·rw [if_neg (by omega)] at e1 e2
  repeat' first|refine Kz ?_|intro _
  refine Ks rfl (Zax (v:=.slice p (mag (x.natAbs / d)).length cap) (n:=x.natAbs / d)) ?_
  repeat' first|refine Kz ?_|intro _
  (refine Zac ?_)
  refine ⟨_,Zge (p:=p) (cap:=cap) e1 e2,Zaa⟩
end Go.Proofs.YtciadfpomkdlnaaGreatDoor.Q
namespace Go.Sx
open Go
theorem Zhi {z:Int} {h:Nat} (h0:h≠0) (hd:h ∣ z.natAbs):(z / (h:Int)).natAbs=z.natAbs / h∧decide (z / (h:Int) < 0)=(decide (z < 0)&&decide (z.natAbs / h≠0)):=by
 obtain ⟨e1,e2⟩:=Zom (x:=z) h0
 have h1:z.natAbs % h=0:=Nat.mod_eq_zero_of_dvd hd
 rw [if_neg (by omega)] at e1 e2
 exact ⟨e1,e2⟩
end Go.Sx
namespace Go.Proofs.YtciadfpomkdlnaaGreatDoor.Q
open Go Go.Sx
variable {w0:World} {As:List Ent}
def RatR (As:List Ent) (r:Rat) (u:Value) (Bs:List Ent):Prop:=∃ p cap q cap',u=.agg #[.slice p (mag r.num.natAbs).length cap,.bool (decide (r.num < 0)),.slice q (mag r.den).length cap']∧Bs=.ft (rd (cN .u32) (.slice p (mag r.num.natAbs).length cap) (mag r.num.natAbs))::.ft (rd (cN .u32) (.slice q (mag r.den).length cap') (mag r.den))::As
def Ln (k:Nat) (r:Rat):Prop:=(mag r.num.natAbs).length≤k∧(mag r.den).length≤k
theorem Ln.mono {k l:Nat} {r:Rat} (h:Ln k r) (hk:k≤l):Ln l r:=⟨Nat.le_trans h.1 hk,Nat.le_trans h.2 hk⟩
theorem Ln.add {a b:Nat} {r s:Rat} (hr:Ln a r) (hs:Ln b s):Ln (a+b+1) (r+s):=by
 obtain ⟨r1,r2⟩:=hr
 obtain ⟨s1,s2⟩:=hs
 constructor
 ·rw [Rat.num_add]
  refine Nat.le_trans (Zag (Int.natAbs_ediv_le_natAbs _ _)) ?_
  refine Nat.le_trans (Zag (Int.natAbs_add_le _ _)) ?_
  refine Nat.le_trans (Zeo _ _) ?_
  rw [Int.natAbs_mul,Int.natAbs_mul,Int.natAbs_natCast,Int.natAbs_natCast]
  have h1:=Zaz r.num.natAbs s.den
  have h2:=Zaz s.num.natAbs r.den
  omega
 ·rw [Rat.den_add]
  refine Nat.le_trans (Zag (Nat.div_le_self _ _)) ?_
  have h1:=Zaz r.den s.den
  omega
theorem Ln.mul {a b:Nat} {r s:Rat} (hr:Ln a r) (hs:Ln b s):Ln (a+b) (r * s):=by
 obtain ⟨r1,r2⟩:=hr
 obtain ⟨s1,s2⟩:=hs
 constructor
 ·rw [Rat.num_mul]
  refine Nat.le_trans (Zag (Int.natAbs_ediv_le_natAbs _ _)) ?_
  rw [Int.natAbs_mul]
  have h1:=Zaz r.num.natAbs s.num.natAbs
  omega
 ·rw [Rat.den_mul]
  refine Nat.le_trans (Zag (Nat.div_le_self _ _)) ?_
  have h1:=Zaz r.den s.den
  omega
theorem Ln.neg {a:Nat} {r:Rat} (hr:Ln a r):Ln a (-r):=⟨by rw [Rat.neg_num,Int.natAbs_neg];exact hr.1,hr.2⟩
theorem Ln.inv {a:Nat} {r:Rat} (hr:Ln a r):Ln a r⁻¹:=by
 by_cases h:r=0
 ·subst h;rw [Rat.inv_zero];exact hr
 ·obtain ⟨h1,h2⟩:=Zp1 r h
  refine ⟨?_,by rw [h2];exact hr.1⟩
  rw [h1]
  have e:(if r.num < 0 then -(r.den:Int) else (r.den:Int)).natAbs=r.den:=by split<;>omega
  rw [e];exact hr.2
section
variable {mv bv nv cv:Value} {x y:Rat}
def minQ (x y:Rat):Rat:=if y < x then y else x
def maxQ (x y:Rat):Rat:=if x < y then y else x
def nearQ (x:Rat) (k:Nat):Int:=(x.num * ((k * 2:Nat):Int)+(x.den:Int)) / ((x.den * 2:Nat):Int)
theorem Zv5 {k:Nat} {sv:Value} [hm:RdIn As mv Nat (cN .u32) (mag x.num.natAbs)] [hb:RdIn As bv Nat (cN .u32) (mag x.den)] [hs:RdIn As sv Nat (cN .u32) (mag k)] (hx:Ln 1000000 x) (hk:(mag k).length≤1000000) :
  CallsS Tryz.prog w0 132 [.agg #[mv,.bool (decide (x.num < 0)),bv],sv] As (SgnR As (nearQ x k)):=by
 refine Zae mv fun p1 c1 h1=>Zae bv fun p2 c2 h2=>Zae sv fun p3 c3 h3=>?_
 subst h1 h2 h3
 obtain ⟨hx1,hx2⟩:=hx
 have hm2:mag 2=[2]:=Zck (by omega) (by omega)
 have l2:(mag 2).length=1:=by rw [hm2];rfl
 have m1:(mag (k * 2)).length≤1000001:=by have:=Zaz k 2;omega
 have m2:(mag (x.num * ((k * 2:Nat):Int)).natAbs).length≤2000001:=by
  rw [Int.natAbs_mul,Int.natAbs_natCast]
  have:=Zaz x.num.natAbs (k * 2)
  omega
 have m3:(mag (x.den * 2)).length≤1000001:=by have:=Zaz x.den 2;omega
 have hd:=x.den_pos
 obtain ⟨top,htop⟩:∃ top,top=x.num * ((k * 2:Nat):Int)+(x.den:Int):=⟨_,rfl⟩
 have m4:(mag top.natAbs).length≤2000002:=by
  rw [htop]
  refine Nat.le_trans (Zag (Int.natAbs_add_le _ _)) (Nat.le_trans (Zeo _ _) ?_)
  rw [Int.natAbs_natCast]
  omega
 have ed:((x.den:Nat):Int).natAbs=x.den:=Int.natAbs_natCast _
 have eb:(false&&decide (x.den≠0))=decide (((x.den:Nat):Int) < 0):=by rw [Bool.false_and,eq_comm,decide_eq_false_iff_not];omega
 refine Zab Tryz.func132 rfl Tryz.ntmps132 rfl ?_
 repeat' first|refine Kz ?_|intro _
 rename_i b2 b4 bt
 refine Tri.ents (Zaj (cN .u32) (mag 2) (n:=1) (cap:=1) (by rw [hm2];rfl) (by rw [hm2];rfl) (by rw [hm2];rfl)) ?_
 refine Tri.mid (fun e' As'=>∃ pt ct b6,e'=[(2,.pointer (some ⟨b2,0,none⟩)),(4,.pointer (some ⟨b4,0,none⟩)),(5,.slice (some ⟨bt,0,none⟩) 1 1),(6,.pointer (some ⟨b6,0,none⟩))] ∧
  As'=.cl b6 [.slice pt (mag top.natAbs).length ct,.bool (decide (top < 0))] 128::.ft (rd (cN .u32) (.slice pt (mag top.natAbs).length ct) (mag top.natAbs))::.ow (cN .u32) 226 (.slice (some ⟨bt,0,none⟩) 1 1) (mag 2) ::
   .cl b4 [.slice none 0 0,.bool false] 128::.cl b2 [.slice p1 (mag x.num.natAbs).length c1,.bool (decide (x.num < 0)),.slice p2 (mag x.den).length c2] 130::As) ?_ ?_
 ·refine Zao (.take 0 (.take 1 (.take 2 (.take 3 (.take 6 (.take 7 (.all [(4,.all [(5,.all [(8,.all [(9,.all [(10,.all [(11,.done)])]),(10,.all [(9,.all [(11,.done)])])]),(10,.all [(8,.all [(9,.all [(11,.done)])])])]),(10,.all [(5,.all [(8,.all [(9,.all [(11,.done)])])])])]),(10,.all [(4,.all [(5,.all [(8,.all [(9,.all [(11,.done)])])])])])]))))))) ?_
  repeat' first|refine Kf ?_|intro _|constructor
  iterate 4
   all_goals
    first
     | (refine T1.callv rfl rfl rfl rfl rfl (Zc3 (v:=.slice p3 (mag k).length c3) (o:=.slice (some ⟨bt,0,none⟩) 1 1) (a:=k) (b:=2) (by omega) (by omega)) ?_
        rintro _ _ ⟨qa,ka,rfl,rfl⟩)
     | (refine T1.callv rfl rfl rfl rfl rfl (Ze4 (v:=.slice p1 (mag x.num.natAbs).length c1) (o:=.slice qa (mag (k * 2)).length ka) (x:=x.num) (m:=k * 2) (by omega) (by omega)) ?_
        rintro _ _ ⟨qb,kb,rfl,rfl⟩)
     | (refine Ku rfl (Zax (v:=.slice p2 (mag x.den).length c2) (n:=x.den) (b:=false)) ?_
        rw [eb])
     | (refine T1.callv rfl rfl rfl rfl rfl (Zu3 (v:=.slice qb (mag (x.num * ((k * 2:Nat):Int)).natAbs).length kb) (o:=.slice p2 (mag x.den).length c2) (x:=x.num * ((k * 2:Nat):Int)) (y:=((x.den:Nat):Int)) (by omega) (by rw [ed];omega)) ?_
        rw [← htop]
        rintro _ _ ⟨qc,kc,rfl,rfl⟩)
    repeat' first|refine Kf ?_|intro _|constructor
  all_goals exact Post.cut _ _ ⟨qc,kc,_,rfl,rfl⟩ Zad Zaa
 rintro _ _ ⟨pt,ct,b6,rfl,rfl⟩
 repeat' first|refine Kz ?_|intro _
 refine Zao (.take 0 (.take 1 (.take 2 (.take 3 (.all [(4,.all [(5,.all [(6,.done)])])]))))) ?_
 repeat' first|refine Kf ?_|intro _|constructor
 refine T1.callv rfl rfl rfl rfl rfl (Zc3 (v:=.slice p2 (mag x.den).length c2) (o:=.slice (some ⟨bt,0,none⟩) 1 1) (a:=x.den) (b:=2) (by omega) (by omega)) ?_
 rintro _ _ ⟨qa,ka,rfl,rfl⟩
 repeat' first|refine Kf ?_|intro _|constructor
 refine T1.callv rfl rfl rfl rfl rfl (Zsc (v:=.slice pt (mag top.natAbs).length ct) (o:=.slice qa (mag (x.den * 2)).length ka) (x:=top) (d:=x.den * 2) (by omega) (by omega) (by omega)) ?_
 rintro _ _ ⟨qb,kb,rfl,rfl⟩
 repeat' first|refine Kf ?_|intro _|constructor
 (refine Zac ?_)
 refine ⟨_,⟨qb,kb,by rw [nearQ,← htop],by rw [nearQ,← htop]⟩,Zaa⟩
theorem Zbm (ht:Tab w0) [hm:RdIn As mv Nat (cN .u32) (mag x.num.natAbs)] [hb:RdIn As bv Nat (cN .u32) (mag x.den)] (hx:Ln 1000000 x) :
  CQ Tryz.prog w0 70 [.agg #[mv,.bool (decide (x.num < 0)),bv]] As (.tuple #[.agg #[.string ⟨(outF x).1.toArray⟩,.string ⟨(outF x).2.1.toArray⟩],.int .i64 (outF x).2.2]):=by
 refine Zae mv fun p1 c1 h1=>Zae bv fun p2 c2 h2=>?_
 subst h1 h2
 obtain ⟨hx1,hx2⟩:=hx
 have big:∀ {n:Nat},Lib.nDigits n≤600→(mag n).length≤1000:=fun {n} h=>by
  by_cases h0:n=0
  ·rw [h0,Zas];simp
  ·have h3:(mag n).length≠0:=fun h=>h0 (Zr3.1 h)
   obtain ⟨d,hd⟩:∃ d,(mag n)[(mag n).length - 1]?=some d:=⟨_,List.getElem?_eq_getElem (by omega)⟩
   have:=Zb2 _ (Zci hd).2.1
   omega
 have o1:(outW x.num).2=0↔Lib.nDigits x.num.natAbs≤600:=by
  unfold outW;split<;>simp<;>omega
 have o2:(outW (x.den:Int)).2=0↔Lib.nDigits x.den≤600:=by
  unfold outW;rw [Int.natAbs_natCast];split<;>simp<;>omega
 have hout:outF x=if Lib.nDigits x.num.natAbs≤600∧Lib.nDigits x.den≤600 then (textI x.num,textI (x.den:Int),0) else ([],[],6):=by
  unfold outF;simp only [o1,o2]
 have etd:textI (x.den:Int)=Lib.decDigits x.den:=by
  have:¬ ((x.den:Int) < 0):=by omega
  simp only [textI,Lib.itoa,if_neg this,Int.toNat_natCast]
 rw [hout]
 refine Zab Tryz.func70 rfl Tryz.ntmps70 rfl ?_
 repeat' first|refine Kz ?_|intro _
 rename_i b1 b2
 refine Kt rfl (Zhc ht (n:=x.num.natAbs) (by omega)) ?_
 by_cases h1:Lib.nDigits x.num.natAbs≤600
 ·repeat' first|refine Kz ?_|intro _
  refine Kt rfl (Zhc ht (n:=x.den) (by omega)) ?_
  by_cases h2:Lib.nDigits x.den≤600
  ·rw [if_pos ⟨h1,h2⟩]
   repeat' first|refine Kz ?_|intro _
   refine Zdz (.cl b1 [.slice p1 (mag x.num.natAbs).length c1,.bool (decide (x.num < 0)),.slice p2 (mag x.den).length c2] 130::As) [] (.take 0 (.take 1 (.take 3 (.take 4 (.all [(2,.all [(5,.take 6 (.all [(7,.take 8 (.done))]))])]))))) ?_
   repeat' first|refine Kf ?_|intro _|constructor
   iterate 2
    all_goals
     first
      | (refine T1.callv rfl rfl rfl rfl rfl (Zpr ht (v:=.slice p1 (mag x.num.natAbs).length c1) (z:=x.num) (big h1)) ?_
         rintro _ _ ⟨rfl,rfl⟩)
      | (refine T1.callv rfl rfl rfl rfl rfl (Zdy ht (v:=.slice p2 (mag x.den).length c2) (n:=x.den) (big h2)) ?_
         rintro _ _ ⟨rfl,rfl⟩)
     repeat' first|refine Kf ?_|intro _|constructor
   all_goals
    (refine Zac ?_)
    exact ⟨_,⟨by rw [etd],rfl⟩,Zaa⟩
  ·rw [if_neg (fun h=>h2 h.2)]
   repeat' first|refine Kz ?_|intro _
   exact Kv
 ·rw [if_neg (fun h=>h1 h.1)]
  repeat' first|refine Kz ?_|intro _
  exact Kv
end
end Go.Proofs.YtciadfpomkdlnaaGreatDoor.Q
