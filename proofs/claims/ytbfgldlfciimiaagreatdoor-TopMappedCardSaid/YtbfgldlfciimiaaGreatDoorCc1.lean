/- Walks: frac: integers. -/
import Derived.Test.YtbfgldlfciimiaaGreatDoorCb4
import Derived.Test.YtbfgldlfciimiaaGreatDoorCp1
import Derived.Test.YtbfgldlfciimiaaGreatDoorWb1
set_option maxHeartbeats 1000000
namespace Go.Sx
open Go
theorem Zux {x:Int} {m:Nat}:decide (x * (m:Int) < 0)=(decide (x < 0)&&decide (x.natAbs * m≠0)):=by
 rw [Bool.eq_iff_iff,decide_eq_true_eq,Bool.and_eq_true,decide_eq_true_eq,decide_eq_true_eq]
 rcases Nat.eq_zero_or_pos m with h|h
 ·subst h;simp
 ·constructor
  ·intro h1
   have h2:x < 0:=by
    rcases Int.lt_or_le x 0 with h2|h2
    ·exact h2
    ·have:=Int.mul_nonneg h2 (show (0:Int)≤m by omega);omega
   exact ⟨h2,Nat.mul_ne_zero (by omega) (by omega)⟩
  ·rintro ⟨h1,_⟩
   exact Int.mul_neg_of_neg_of_pos h1 (by omega)
theorem Ztn {x:Int} {d:Nat} (hd:d≠0):(x / (d:Int)).natAbs=(if x < 0∧x.natAbs % d≠0 then x.natAbs / d+1 else x.natAbs / d)∧decide (x / (d:Int) < 0)=(decide (x < 0)&&decide ((if x < 0∧x.natAbs % d≠0 then x.natAbs / d+1 else x.natAbs / d)≠0)):=by
 have hm:=Nat.div_add_mod x.natAbs d
 have hl:=Nat.mod_lt x.natAbs (Nat.pos_of_ne_zero hd)
 generalize x.natAbs / d=q at *
 generalize x.natAbs % d=r at *
 have key:x / (d:Int)=if x < 0 then (if r≠0 then -((q:Int)+1) else -(q:Int)) else (q:Int):=by
  have hc:((d * q+r:Nat):Int)=(d:Int) * (q:Int)+(r:Int):=by push_cast;rfl
  split
  ·rename_i hx
   have hx2:x=-((d:Int) * (q:Int)+(r:Int)):=by omega
   split
   ·rw [hx2]
    have e:-((d:Int) * (q:Int)+(r:Int))=((d:Int) - (r:Int))+(d:Int) * (-((q:Int)+1)):=by grind
    rw [e,Int.add_mul_ediv_left _ _ (by omega),Int.ediv_eq_zero_of_lt (by omega) (by omega),Int.zero_add]
   ·rename_i hr
    have hr:r=0:=by omega
    subst hr
    rw [hx2]
    have e:-((d:Int) * (q:Int)+((0:Nat):Int))=(d:Int) * (-(q:Int)):=by grind
    rw [e,Int.mul_ediv_cancel_left _ (by omega)]
  ·rename_i hx
   have hx2:x=(r:Int)+(d:Int) * (q:Int):=by omega
   rw [hx2,Int.add_mul_ediv_left _ _ (by omega),Int.ediv_eq_zero_of_lt (by omega) (by omega),Int.zero_add]
 rw [key]
 by_cases hx:x < 0
 ·by_cases hr:r≠0
  ·simp only [hx,hr,if_true,and_self,decide_true,Bool.true_and,not_false_eq_true,ne_eq]
   refine ⟨by omega,?_⟩
   rw [Bool.eq_iff_iff,decide_eq_true_eq,decide_eq_true_eq];omega
  ·simp only [hx,hr,if_true,if_false,and_false,decide_true,Bool.true_and]
   refine ⟨by omega,?_⟩
   rw [Bool.eq_iff_iff,decide_eq_true_eq,decide_eq_true_eq];omega
 ·simp only [hx,if_false,false_and,decide_false,Bool.false_and]
  refine ⟨by omega,?_⟩
  rw [decide_eq_false_iff_not];omega
end Go.Sx
namespace Go.Proofs.YtbfgldlfciimiaaGreatDoor.Q
open Go Go.Sx
variable {w0:World} {As:List Ent}
theorem Zbu {v:Value} {n:Nat} {b:Bool} [hr:RdIn As v Nat (cN .u32) (mag n)]:CQ Tryz.prog w0 147 [v,.bool b] As (.agg #[v,.bool (b&&decide (n≠0))]):=by
 refine Zae v fun p cap hv=>?_
 subst hv
 refine Zab Tryz.func147 rfl Tryz.ntmps147 rfl ?_
 cases b
 ·repeat' first|refine Kz ?_|intro _
  exact Kv
 ·repeat' first|refine Kz ?_|intro _
  refine TL.call rfl rfl rfl Zc8 ?_
  rintro _ As ⟨rfl,rfl⟩
  repeat' first|refine Kz ?_|intro _
  (refine Zac ?_)
  exact ⟨_,⟨by simp,rfl⟩,Zaa⟩
theorem Zi9 {s:List UInt8} {z:Int} (h:readW s=some z):CallsS Tryz.prog w0 145 [.string ⟨s.toArray⟩] As (SgnR As z):=by
 refine Zab Tryz.func145 rfl Tryz.ntmps145 rfl ?_
 repeat' first|refine Kz ?_|intro _
 refine TL.call rfl rfl rfl Zk0 ?_
 rintro _ As ⟨rfl,rfl⟩
 obtain ⟨neg,hneg⟩:∃ neg,Lib.hasPrefix s [45]=neg:=⟨_,rfl⟩
 obtain ⟨l,hll⟩:∃ l,Lib.trimPrefix s [45]=l:=⟨_,rfl⟩
 rw [hneg,hll]
 have hrw:=Zi3 hneg hll
 rw [h] at hrw
 split at hrw
 ·rename_i hc
  obtain ⟨h0,h6,hd,h48⟩:=hc
  rw [Option.some.injEq] at hrw
  have e1:z.natAbs=numOf l:=by rw [hrw];split<;>omega
  have e2:decide (z < 0)=neg:=by
   rw [hrw]
   cases neg
   ·simp
   ·have:=Zfp hd h0 fun h1=>by have:=(h48 h1).1;cases this
    simp;omega
  repeat' first|refine Kz ?_|intro _
  refine TL.call rfl rfl rfl (Zmu hd h0 (by omega)) ?_
  rintro _ _ ⟨p,cap,rfl,rfl⟩
  repeat' first|refine Kz ?_|intro _
  (refine Zac ?_)
  exact ⟨_,⟨p,cap,by rw [e1,e2];rfl,by rw [e1]⟩,Zaa⟩
 ·cases hrw
theorem Z1i (ht:Tab w0) {v:Value} {z:Int} [hr:RdIn As v Nat (cN .u32) (mag z.natAbs)] (hl:(mag z.natAbs).length≤1000) :
  CQ Tryz.prog w0 168 [.agg #[v,.bool (decide (z < 0))]] As (.string ⟨(textI z).toArray⟩):=by
 refine Zae v fun pv cv hv=>?_
 subst hv
 refine Zab Tryz.func168 rfl Tryz.ntmps168 rfl ?_
 repeat' first|refine Kz ?_|intro _
 (refine Kx (fun hc=>?_) fun hc=>?_)
 ·repeat' first|refine Kz ?_|intro _
  refine TL.call rfl rfl rfl (Zfw ht hl) ?_
  rintro _ As ⟨rfl,rfl⟩
  have hdl:=Zbm z.natAbs
  have hdm:=Zh9 z.natAbs
  repeat' first|refine Kz ?_|intro _
  (refine Zac ?_)
  refine ⟨_,⟨?_,rfl⟩,Zaa⟩
  simp only [textI,Lib.itoa,if_pos hc]
  rfl
 ·repeat' first|refine Kz ?_|intro _
  refine TL.call rfl rfl rfl (Zfw ht hl) ?_
  rintro _ As ⟨rfl,rfl⟩
  repeat' first|refine Kz ?_|intro _
  (refine Zac ?_)
  refine ⟨_,⟨?_,rfl⟩,Zaa⟩
  simp only [textI,Lib.itoa,if_neg hc]
  rw [show z.natAbs=z.toNat by omega]
theorem Zf8 {v:Value} {x:Int} [hf:RdIn As v Nat (cN .u32) (mag x.natAbs)]:CQ Tryz.prog w0 170 [.agg #[v,.bool (decide (x < 0))]] As (.agg #[v,.bool (decide (-x < 0))]):=by
 refine Zae v fun pv cv hv=>?_
 subst hv
 refine Zab Tryz.func170 rfl Tryz.ntmps170 rfl ?_
 have e1:(!decide (x < 0)&&decide (x.natAbs≠0))=decide (-x < 0):=by
  rw [Bool.eq_iff_iff]
  simp only [Bool.and_eq_true,Bool.not_eq_true',decide_eq_false_iff_not,decide_eq_true_eq]
  omega
 repeat' first|refine Kz ?_|intro _
 refine TL.call rfl rfl rfl (Zbu (n:=x.natAbs)) ?_
 rintro _ As ⟨rfl,rfl⟩
 rw [e1]
 repeat' first|refine Kz ?_|intro _
 exact Kv
theorem Z1r {v:Value} {x:Int} [hf:RdIn As v Nat (cN .u32) (mag x.natAbs)]:CQ Tryz.prog w0 165 [.agg #[v,.bool (decide (x < 0))]] As (.int .i64 (signI x)):=by
 refine Zae v fun pv cv hv=>?_
 subst hv
 refine Zab Tryz.func165 rfl Tryz.ntmps165 rfl ?_
 repeat' first|refine Kz ?_|intro _
 refine TL.call rfl rfl rfl (Zc8 (n:=x.natAbs)) ?_
 rintro _ As ⟨rfl,rfl⟩
 by_cases h0:x.natAbs=0
 ·repeat' first|refine Kz ?_|intro _
  (refine Zac ?_)
  exact ⟨_,⟨by rw [signI,if_neg (by omega),if_pos (by omega)],rfl⟩,Zaa⟩
 ·by_cases h1:x < 0
  ·repeat' first|refine Kz ?_|intro _
   (refine Zac ?_)
   exact ⟨_,⟨by rw [signI,if_pos h1],rfl⟩,Zaa⟩
  ·repeat' first|refine Kz ?_|intro _
   (refine Zac ?_)
   exact ⟨_,⟨by rw [signI,if_neg h1,if_neg (by omega)],rfl⟩,Zaa⟩
theorem Zoi {v o:Value} {x y:Int} [hf:RdIn As v Nat (cN .u32) (mag x.natAbs)] [hg:RdIn As o Nat (cN .u32) (mag y.natAbs)] (ha:(mag x.natAbs).length≤100000000) (hb:(mag y.natAbs).length≤100000000) :
  CallsS Tryz.prog w0 161 [.agg #[v,.bool (decide (x < 0))],.agg #[o,.bool (decide (y < 0))]] As (SgnR As (x+y)):=by
 refine Zae v fun pv cv hv=>Zae o fun po co ho=>?_
 subst hv ho
 refine Zab Tryz.func161 rfl Tryz.ntmps161 rfl ?_
 repeat' first|refine Kz ?_|intro _
 (refine Kx (fun hc=>?_) fun hc=>?_)
 ·have hs:(x < 0∧y < 0)∨(¬ x < 0∧¬ y < 0):=by
   by_cases h1:x < 0<;>by_cases h2:y < 0<;>simp [h1,h2] at hc<;>omega
  have e1:(x+y).natAbs=x.natAbs+y.natAbs:=by omega
  have e2:decide (x+y < 0)=(decide (x < 0)&&decide (x.natAbs+y.natAbs≠0)):=by
   rcases hs with ⟨h1,h2⟩|⟨h1,h2⟩
   ·simp only [h1,decide_true,Bool.true_and];rw [Bool.eq_iff_iff,decide_eq_true_eq,decide_eq_true_eq];omega
   ·simp only [h1,decide_false,Bool.false_and];rw [decide_eq_false_iff_not];omega
  repeat' first|refine Kz ?_|intro _
  refine Zam (.take 0 (.take 1 (.take 2 (.take 3 (.take 5 (.take 6 (.all [(4,.all [(7,.all [(8,.done)])])]))))))) ?_
  repeat' first|refine Kf ?_|intro _|constructor
  refine T1.call rfl rfl rfl rfl (Zqb ha hb) ?_
  rintro _ _ ⟨p,cap,rfl,rfl⟩
  repeat' first|refine Kf ?_|intro _|constructor
  refine Kw rfl (Zbu (n:=x.natAbs+y.natAbs)) ?_
  repeat' first|refine Kf ?_|intro _|constructor
  (refine Zac ?_)
  exact ⟨_,Zd4 e1 e2,Zaa⟩
 ·have hs:(x < 0∧¬ y < 0)∨(¬ x < 0∧y < 0):=by
   by_cases h1:x < 0<;>by_cases h2:y < 0<;>simp [h1,h2] at hc<;>omega
  repeat' first|refine Kz ?_|intro _
  refine TL.call rfl rfl rfl (Zc7 ha hb) ?_
  rintro _ As ⟨rfl,rfl⟩
  repeat' first|refine Kz ?_|intro _
  (refine Kx (fun hc=>?_) fun hc=>?_)
  ·have hlt:=Yii.1 hc
   have e1:(x+y).natAbs=y.natAbs - x.natAbs:=by omega
   have e2:decide (x+y < 0)=(decide (y < 0)&&decide (y.natAbs - x.natAbs≠0)):=by
    by_cases h2:y < 0
    ·simp only [h2,decide_true,Bool.true_and];rw [Bool.eq_iff_iff,decide_eq_true_eq,decide_eq_true_eq];omega
    ·simp only [h2,decide_false,Bool.false_and];rw [decide_eq_false_iff_not];omega
   repeat' first|refine Kz ?_|intro _
   refine Zam (.take 0 (.take 1 (.take 2 (.take 3 (.take 5 (.take 6 (.all [(4,.all [(7,.all [(8,.done)])])]))))))) ?_
   repeat' first|refine Kf ?_|intro _|constructor
   refine T1.call rfl rfl rfl rfl (Zjd (by omega) hb) ?_
   rintro _ _ ⟨p,cap,rfl,rfl⟩
   repeat' first|refine Kf ?_|intro _|constructor
   refine Kw rfl (Zbu (n:=y.natAbs - x.natAbs)) ?_
   repeat' first|refine Kf ?_|intro _|constructor
   (refine Zac ?_)
   exact ⟨_,Zd4 e1 e2,Zaa⟩
  ·have hlt:¬ x.natAbs < y.natAbs:=fun h=>hc (Yii.2 h)
   have e1:(x+y).natAbs=x.natAbs - y.natAbs:=by omega
   have e2:decide (x+y < 0)=(decide (x < 0)&&decide (x.natAbs - y.natAbs≠0)):=by
    by_cases h2:x < 0
    ·simp only [h2,decide_true,Bool.true_and];rw [Bool.eq_iff_iff,decide_eq_true_eq,decide_eq_true_eq];omega
    ·simp only [h2,decide_false,Bool.false_and];rw [decide_eq_false_iff_not];omega
   repeat' first|refine Kz ?_|intro _
   refine Zam (.take 0 (.take 1 (.take 2 (.take 3 (.take 5 (.take 6 (.all [(4,.all [(7,.all [(8,.done)])])]))))))) ?_
   repeat' first|refine Kf ?_|intro _|constructor
   refine T1.call rfl rfl rfl rfl (Zjd (by omega) ha) ?_
   rintro _ _ ⟨p,cap,rfl,rfl⟩
   repeat' first|refine Kf ?_|intro _|constructor
   refine Kw rfl (Zbu (n:=x.natAbs - y.natAbs)) ?_
   repeat' first|refine Kf ?_|intro _|constructor
   (refine Zac ?_)
   exact ⟨_,Zd4 e1 e2,Zaa⟩
theorem Zgt {v o:Value} {x:Int} {m:Nat} [hf:RdIn As v Nat (cN .u32) (mag x.natAbs)] [hg:RdIn As o Nat (cN .u32) (mag m)] (ha:(mag x.natAbs).length≤100000000) (hb:(mag m).length≤100000000) :
  CallsS Tryz.prog w0 160 [.agg #[v,.bool (decide (x < 0))],o] As (SgnR As (x * (m:Int))):=by
 refine Zae v fun pv cv hv=>Zae o fun po co ho=>?_
 subst hv ho
 have e1:(x * (m:Int)).natAbs=x.natAbs * m:=by rw [Int.natAbs_mul,Int.natAbs_natCast]
 refine Zab Tryz.func160 rfl Tryz.ntmps160 rfl ?_
 repeat' first|refine Kz ?_|intro _
 refine Zam (.take 0 (.take 1 (.take 2 (.take 4 (.take 5 (.all [(3,.all [(6,.all [(7,.done)])])])))))) ?_
 repeat' first|refine Kf ?_|intro _|constructor
 refine T1.call rfl rfl rfl rfl (Zcy (a:=x.natAbs) (b:=m) ha hb) ?_
 rintro _ _ ⟨p,cap,rfl,rfl⟩
 repeat' first|refine Kf ?_|intro _|constructor
 refine Kw rfl (Zbu (n:=x.natAbs * m)) ?_
 repeat' first|refine Kf ?_|intro _|constructor
 (refine Zac ?_)
 exact ⟨_,Zd4 e1 Zux,Zaa⟩
theorem Z7t {v o:Value} {x:Int} {d:Nat} [hf:FtIn As v Nat (cN .u32) (mag x.natAbs)] [hg:RdIn As o Nat (cN .u32) (mag d)] (hd:d≠0) (ha:(mag x.natAbs).length≤10000000) (hb:(mag d).length≤10000000) :
  CallsS Tryz.prog w0 226 [.agg #[v,.bool (decide (x < 0))],o] As (SgnR As (x / (d:Int))):=by
 refine Zae v fun pv cv hv=>Zae o fun po co ho=>?_
 subst hv ho
 obtain ⟨e1,e2⟩:=Ztn (x:=x) hd
 have hlq:(mag (x.natAbs / d)).length≤10000000:=Nat.le_trans (Zah (Nat.div_le_self _ _)) ha
 refine Zab Tryz.func226 rfl Tryz.ntmps226 rfl ?_
 repeat' first|refine Kz ?_|intro _
 refine TL.call rfl rfl rfl (Zby (a:=x.natAbs) (b:=d) hd ha (by omega)) ?_
 rintro _ _ ⟨p,cap,p',cap',rfl,rfl⟩
 by_cases hx:x < 0
 ·by_cases hr:x.natAbs % d=0
  ·rw [if_neg (by omega)] at e1 e2
   repeat' first|refine Kz ?_|intro _
   refine Ks rfl (Zc8 (v:=.slice p' (mag (x.natAbs % d)).length cap') (n:=x.natAbs % d)) ?_
   repeat' first|refine Kz ?_|intro _
   refine Ks rfl (Zbu (v:=.slice p (mag (x.natAbs / d)).length cap) (n:=x.natAbs / d)) ?_
   repeat' first|refine Kz ?_|intro _
   (refine Zac ?_)
   refine ⟨_,Zd4 (p:=p) (cap:=cap) e1 e2,Zaa⟩
  ·rw [if_pos ⟨hx,hr⟩] at e1 e2
   have hm1:mag 1=[1]:=Zel (by omega) (by omega)
   repeat' first|refine Kz ?_|intro _
   refine Ks rfl (Zc8 (v:=.slice p' (mag (x.natAbs % d)).length cap') (n:=x.natAbs % d)) ?_
   repeat' first|refine Kz ?_|intro _
   refine TL.ents (Zbz (cN .u32) (mag 1) (by rw [hm1];rfl) (by rw [hm1]) (by rw [hm1])) ?_
   refine TL.callv rfl rfl rfl rfl (Zqb (v:=.slice p (mag (x.natAbs / d)).length cap) (a:=x.natAbs / d) (b:=1) (by omega) (by rw [hm1];simp)) ?_
   rintro _ _ ⟨p4,cap4,rfl,rfl⟩
   repeat' first|refine Kz ?_|intro _
   refine Ks rfl (Zbu (v:=.slice p4 (mag (x.natAbs / d+1)).length cap4) (n:=x.natAbs / d+1)) ?_
   repeat' first|refine Kz ?_|intro _
   (refine Zac ?_)
   refine ⟨_,Zd4 (p:=p4) (cap:=cap4) e1 e2,Zaa⟩
 ·rw [if_neg (by omega)] at e1 e2
  repeat' first|refine Kz ?_|intro _
  refine Ks rfl (Zbu (v:=.slice p (mag (x.natAbs / d)).length cap) (n:=x.natAbs / d)) ?_
  repeat' first|refine Kz ?_|intro _
  (refine Zac ?_)
  refine ⟨_,Zd4 (p:=p) (cap:=cap) e1 e2,Zaa⟩
end Go.Proofs.YtbfgldlfciimiaaGreatDoor.Q
namespace Go.Sx
open Go
theorem Zjl {z:Int} {h:Nat} (h0:h≠0) (hd:h ∣ z.natAbs):(z / (h:Int)).natAbs=z.natAbs / h∧decide (z / (h:Int) < 0)=(decide (z < 0)&&decide (z.natAbs / h≠0)):=by
 obtain ⟨e1,e2⟩:=Ztn (x:=z) h0
 have h1:z.natAbs % h=0:=Nat.mod_eq_zero_of_dvd hd
 rw [if_neg (by omega)] at e1 e2
 exact ⟨e1,e2⟩
def ordQ (x y:Rat):Int:=signI (x.num * (y.den:Int) - y.num * (x.den:Int))
theorem Zvd {x y:Rat}:ordQ x y < 0↔x < y:=by
 have h:=(Zp7 x y).1
 unfold ordQ signI
 rw [← h]
 split<;>(try split)<;>omega
theorem Zqh {x y:Rat}:0 < ordQ x y↔y < x:=by
 have h:=(Zp7 y x).1
 unfold ordQ signI
 rw [← h]
 split<;>(try split)<;>omega
end Go.Sx
namespace Go.Proofs.YtbfgldlfciimiaaGreatDoor.Q
open Go Go.Sx
variable {w0:World} {As:List Ent}
def RatR (As:List Ent) (r:Rat) (u:Value) (Bs:List Ent):Prop:=∃ p cap q cap',u=.agg #[.slice p (mag r.num.natAbs).length cap,.bool (decide (r.num < 0)),.slice q (mag r.den).length cap']∧Bs=.ft (rd (cN .u32) (.slice p (mag r.num.natAbs).length cap) (mag r.num.natAbs))::.ft (rd (cN .u32) (.slice q (mag r.den).length cap') (mag r.den))::As
def Ln (k:Nat) (r:Rat):Prop:=(mag r.num.natAbs).length≤k∧(mag r.den).length≤k
theorem Ln.mono {k l:Nat} {r:Rat} (h:Ln k r) (hk:k≤l):Ln l r:=⟨Nat.le_trans h.1 hk,Nat.le_trans h.2 hk⟩
theorem Ln.add {a b:Nat} {r s:Rat} (hr:Ln a r) (hs:Ln b s):Ln (a+b+1) (r+s):=by
 obtain ⟨r1,r2⟩:=hr
 obtain ⟨s1,s2⟩:=hs
 constructor
 ·rw [Rat.num_add]
  refine Nat.le_trans (Zah (Int.natAbs_ediv_le_natAbs _ _)) ?_
  refine Nat.le_trans (Zah (Int.natAbs_add_le _ _)) ?_
  refine Nat.le_trans (Zgb _ _) ?_
  rw [Int.natAbs_mul,Int.natAbs_mul,Int.natAbs_natCast,Int.natAbs_natCast]
  have h1:=Zav r.num.natAbs s.den
  have h2:=Zav s.num.natAbs r.den
  omega
 ·rw [Rat.den_add]
  refine Nat.le_trans (Zah (Nat.div_le_self _ _)) ?_
  have h1:=Zav r.den s.den
  omega
theorem Ln.mul {a b:Nat} {r s:Rat} (hr:Ln a r) (hs:Ln b s):Ln (a+b) (r * s):=by
 obtain ⟨r1,r2⟩:=hr
 obtain ⟨s1,s2⟩:=hs
 constructor
 ·rw [Rat.num_mul]
  refine Nat.le_trans (Zah (Int.natAbs_ediv_le_natAbs _ _)) ?_
  rw [Int.natAbs_mul]
  have h1:=Zav r.num.natAbs s.num.natAbs
  omega
 ·rw [Rat.den_mul]
  refine Nat.le_trans (Zah (Nat.div_le_self _ _)) ?_
  have h1:=Zav r.den s.den
  omega
theorem Ln.neg {a:Nat} {r:Rat} (hr:Ln a r):Ln a (-r):=⟨by rw [Rat.neg_num,Int.natAbs_neg];exact hr.1,hr.2⟩
theorem Ln.inv {a:Nat} {r:Rat} (hr:Ln a r):Ln a r⁻¹:=by
 by_cases h:r=0
 ·subst h;rw [Rat.inv_zero];exact hr
 ·obtain ⟨h1,h2⟩:=Zu4 r h
  refine ⟨?_,by rw [h2];exact hr.1⟩
  rw [h1]
  have e:(if r.num < 0 then -(r.den:Int) else (r.den:Int)).natAbs=r.den:=by split<;>omega
  rw [e];exact hr.2
section
variable {mv bv nv cv:Value} {x y:Rat}
theorem Zow [hm:RdIn As mv Nat (cN .u32) (mag x.num.natAbs)] [hb:RdIn As bv Nat (cN .u32) (mag x.den)] :
  CQ Tryz.prog w0 156 [.agg #[mv,.bool (decide (x.num < 0)),bv]] As (.agg #[mv,.bool (decide ((-x).num < 0)),bv]):=by
 refine Zae mv fun pv cv hv=>Zae bv fun po co ho=>?_
 subst hv ho
 refine Zab Tryz.func156 rfl Tryz.ntmps156 rfl ?_
 repeat' first|refine Kz ?_|intro _
 refine Zam (.take 0 (.take 1 (.take 3 (.take 4 (.all [(2,.take 5 (.all [(6,.done)]))]))))) ?_
 repeat' first|refine Kf ?_|intro _|constructor
 refine Kw rfl (Zf8 (x:=x.num)) ?_
 repeat' first|refine Kf ?_|intro _|constructor
 exact Kv
theorem Zyq [hm:FtIn As mv Nat (cN .u32) (mag x.num.natAbs)] [hb:FtIn As bv Nat (cN .u32) (mag x.den)] [hn:FtIn As nv Nat (cN .u32) (mag y.num.natAbs)] [hc:FtIn As cv Nat (cN .u32) (mag y.den)] (hx:Ln 2000000 x) (hy:Ln 2000000 y) :
  CallsS Tryz.prog w0 115 [.agg #[mv,.bool (decide (x.num < 0)),bv],.agg #[nv,.bool (decide (y.num < 0)),cv]] As (RatR As (x+y)):=by
 refine Zae mv fun p1 c1 h1=>Zae bv fun p2 c2 h2=>Zae nv fun p3 c3 h3=>Zae cv fun p4 c4 h4=>?_
 subst h1 h2 h3 h4
 obtain ⟨hx1,hx2⟩:=hx
 obtain ⟨hy1,hy2⟩:=hy
 obtain ⟨g,hg⟩:∃ g,g=Nat.gcd x.den y.den:=⟨_,rfl⟩
 obtain ⟨top,htop⟩:∃ top,top=x.num * ((y.den / g:Nat):Int)+y.num * ((x.den / g:Nat):Int):=⟨_,rfl⟩
 obtain ⟨h,hh⟩:∃ h,h=Nat.gcd top.natAbs g:=⟨_,rfl⟩
 obtain ⟨e1,e2⟩:=Yad x y hg htop hh
 have hg0:g≠0:=by rw [hg];exact Nat.ne_of_gt (Nat.gcd_pos_of_pos_left _ x.den_pos)
 have hh0:h≠0:=by rw [hh];exact Nat.ne_of_gt (Nat.gcd_pos_of_pos_right _ (Nat.pos_of_ne_zero hg0))
 obtain ⟨e3,e4⟩:=Zjl hh0 (show h ∣ top.natAbs by rw [hh];exact Nat.gcd_dvd_left _ _)
 rw [← e1] at e3 e4
 have lg:(mag g).length≤2000000:=Nat.le_trans (Zah (by rw [hg];exact Nat.gcd_le_left _ x.den_pos)) hx2
 have lh:(mag h).length≤2000000:=Nat.le_trans (Zah (by rw [hh];exact Nat.gcd_le_right _ (Nat.pos_of_ne_zero hg0))) lg
 have ll:(mag (y.den / g)).length≤2000000:=Nat.le_trans (Zah (Nat.div_le_self _ _)) hy2
 have lr:(mag (x.den / g)).length≤2000000:=Nat.le_trans (Zah (Nat.div_le_self _ _)) hx2
 have lrs:(mag (y.den / h)).length≤2000000:=Nat.le_trans (Zah (Nat.div_le_self _ _)) hy2
 have m1:(mag (x.num * ((y.den / g:Nat):Int)).natAbs).length≤4000000:=by
  rw [Int.natAbs_mul,Int.natAbs_natCast]
  have:=Zav x.num.natAbs (y.den / g)
  omega
 have m2:(mag (y.num * ((x.den / g:Nat):Int)).natAbs).length≤4000000:=by
  rw [Int.natAbs_mul,Int.natAbs_natCast]
  have:=Zav y.num.natAbs (x.den / g)
  omega
 have mt:(mag top.natAbs).length≤4000001:=by
  rw [htop]
  refine Nat.le_trans (Zah (Int.natAbs_add_le _ _)) (Nat.le_trans (Zgb _ _) ?_)
  omega
 unfold RatR
 refine Zab Tryz.func115 rfl Tryz.ntmps115 rfl ?_
 repeat' first|refine Kz ?_|intro _
 rename_i b2 b3 b4
 refine TL.call rfl rfl rfl (Zku (a:=x.den) (b:=y.den) (by omega) (by omega)) ?_
 rintro _ _ ⟨pg,cg,rfl,rfl⟩
 rw [← hg]
 repeat' first|refine Kz ?_|intro _
 refine TL.call rfl rfl rfl (Zby (a:=y.den) (b:=g) hg0 (by omega) (by omega)) ?_
 rintro _ _ ⟨pl,cl,pl',cl',rfl,rfl⟩
 repeat' first|refine Kz ?_|intro _
 refine TL.call rfl rfl rfl (Zby (a:=x.den) (b:=g) hg0 (by omega) (by omega)) ?_
 rintro _ _ ⟨pr,cr,pr',cr',rfl,rfl⟩
 repeat' first|refine Kz ?_|intro _
 refine Tri.mid (fun e' As'=>∃ pt ct b10,e'=[(3,.pointer (some ⟨b3,0,none⟩)),(4,.pointer (some ⟨b4,0,none⟩)),(5,.slice pg (mag g).length cg),(8,.slice pr (mag (x.den / g)).length cr),(10,.pointer (some ⟨b10,0,none⟩))] ∧
  As'=.cl b10 [.slice pt (mag top.natAbs).length ct,.bool (decide (top < 0))] 190::.ft (rd (cN .u32) (.slice pt (mag top.natAbs).length ct) (mag top.natAbs))::.ft (rd (cN .u32) (.slice pr (mag (x.den / g)).length cr) (mag (x.den / g)))::.ft (rd (cN .u32) (.slice pg (mag g).length cg) (mag g)) ::
   .cl b4 [.slice none 0 0,.bool false,.slice none 0 0] 192::.cl b3 [.slice p3 (mag y.num.natAbs).length c3,.bool (decide (y.num < 0)),.slice p4 (mag y.den).length c4] 192::As) ?_ ?_
 ·refine Zam (.take 0 (.take 1 (.take 2 (.take 4 (.take 5 (.take 6 (.all [(3,.all [(7,.all [(8,.all [(9,.all [(10,.done)])]),(9,.all [(8,.all [(10,.done)])])]),(9,.all [(7,.all [(8,.all [(10,.done)])])])]),(9,.all [(3,.all [(7,.all [(8,.all [(10,.done)])])])])]))))))) ?_
  repeat' first|refine Kf ?_|intro _|constructor
  iterate 3
   all_goals
    first
     | (refine T1.callv rfl rfl rfl rfl rfl (Zgt (v:=.slice p1 (mag x.num.natAbs).length c1) (o:=.slice pl (mag (y.den / g)).length cl) (x:=x.num) (m:=y.den / g) (by omega) (by omega)) ?_
        rintro _ _ ⟨qa,ka,rfl,rfl⟩)
     | (refine T1.callv rfl rfl rfl rfl rfl (Zgt (v:=.slice p3 (mag y.num.natAbs).length c3) (o:=.slice pr (mag (x.den / g)).length cr) (x:=y.num) (m:=x.den / g) (by omega) (by omega)) ?_
        rintro _ _ ⟨qb,kb,rfl,rfl⟩)
     | (refine T1.callv rfl rfl rfl rfl rfl (Zoi (x:=x.num * ((y.den / g:Nat):Int)) (y:=y.num * ((x.den / g:Nat):Int)) (by omega) (by omega)) ?_
        rw [← htop]
        rintro _ _ ⟨qc,kc,rfl,rfl⟩)
    repeat' first|refine Kf ?_|intro _|constructor
  all_goals exact Post.cut _ _ ⟨qc,kc,_,rfl,rfl⟩ Zad Zaa
 rintro _ _ ⟨pt,ct,b10,rfl,rfl⟩
 repeat' first|refine Kz ?_|intro _
 refine TL.call rfl rfl rfl (Zku (a:=top.natAbs) (b:=g) (by omega) (by omega)) ?_
 rintro _ _ ⟨ph,ch,rfl,rfl⟩
 rw [← hh]
 repeat' first|refine Kz ?_|intro _
 refine TL.call rfl rfl rfl (Zby (a:=top.natAbs) (b:=h) hh0 (by omega) (by omega)) ?_
 rintro _ _ ⟨pn,cn,pn',cn',rfl,rfl⟩
 repeat' first|refine Kz ?_|intro _
 refine TL.call rfl rfl rfl (Zby (a:=y.den) (b:=h) hh0 (by omega) (by omega)) ?_
 rintro _ _ ⟨ps,cs,ps',cs',rfl,rfl⟩
 repeat' first|refine Kz ?_|intro _
 refine Ks rfl (Zbu (v:=.slice pn (mag (top.natAbs / h)).length cn) (n:=top.natAbs / h)) ?_
 repeat' first|refine Kz ?_|intro _
 refine TL.callv rfl rfl rfl rfl (Zcy (v:=.slice pr (mag (x.den / g)).length cr) (o:=.slice ps (mag (y.den / h)).length cs) (a:=x.den / g) (b:=y.den / h) (by omega) (by omega)) ?_
 rintro _ _ ⟨pd,cd,rfl,rfl⟩
 repeat' first|refine Kz ?_|intro _
 (refine Zac ?_)
 refine ⟨_,⟨pn,cn,pd,cd,?_,rfl⟩,?_⟩
 ·rw [e3,e4,e2]
 ·rw [e3,e2]<;>(exact Zaa)
theorem Yde [hm:FtIn As mv Nat (cN .u32) (mag x.num.natAbs)] [hb:FtIn As bv Nat (cN .u32) (mag x.den)] [hn:FtIn As nv Nat (cN .u32) (mag y.num.natAbs)] [hc:FtIn As cv Nat (cN .u32) (mag y.den)] (hx:Ln 2000000 x) (hy:Ln 2000000 y) :
  CallsS Tryz.prog w0 125 [.agg #[mv,.bool (decide (x.num < 0)),bv],.agg #[nv,.bool (decide (y.num < 0)),cv]] As (RatR As (x - y)):=by
 refine Zae mv fun p1 c1 h1=>Zae bv fun p2 c2 h2=>Zae nv fun p3 c3 h3=>Zae cv fun p4 c4 h4=>?_
 subst h1 h2 h3 h4
 rw [Rat.sub_eq_add_neg]
 have en:mag y.num.natAbs=mag (-y).num.natAbs:=by rw [Rat.neg_num,Int.natAbs_neg]
 unfold RatR
 refine Zab Tryz.func125 rfl Tryz.ntmps125 rfl ?_
 repeat' first|refine Kz ?_|intro _
 refine Zam (.take 0 (.take 1 (.all [(2,.all [(3,.all [(4,.done)])])]))) ?_
 repeat' first|refine Kf ?_|intro _|constructor
 refine Ku rfl (Zow (mv:=.slice p3 (mag y.num.natAbs).length c3) (bv:=.slice p4 (mag y.den).length c4) (x:=y)) ?_
 repeat' first|refine Kf ?_|intro _|constructor
 have hy':Ln 2000000 (-y):=hy.neg
 rw [en] at hn ⊢
 have hc':FtIn As (Value.slice p4 (mag y.den).length c4) Nat (cN .u32) (mag (-y).den):=hc
 refine T1.callv rfl rfl rfl rfl rfl (Zyq (mv:=.slice p1 (mag x.num.natAbs).length c1) (bv:=.slice p2 (mag x.den).length c2) (nv:=.slice p3 (mag (-y).num.natAbs).length c3) (cv:=.slice p4 (mag y.den).length c4) (x:=x) (y:=-y) hx hy') ?_
 rintro _ _ ⟨pn,cn,pd,cd,rfl,rfl⟩
 repeat' first|refine Kf ?_|intro _|constructor
 (refine Zac ?_)
 exact ⟨_,⟨pn,cn,pd,cd,rfl,rfl⟩,Zaa⟩
theorem Z9c [hm:FtIn As mv Nat (cN .u32) (mag x.num.natAbs)] [hb:FtIn As bv Nat (cN .u32) (mag x.den)] [hn:FtIn As nv Nat (cN .u32) (mag y.num.natAbs)] [hc:FtIn As cv Nat (cN .u32) (mag y.den)] (hx:Ln 2000000 x) (hy:Ln 2000000 y) :
  CallsS Tryz.prog w0 114 [.agg #[mv,.bool (decide (x.num < 0)),bv],.agg #[nv,.bool (decide (y.num < 0)),cv]] As (RatR As (x * y)):=by
 refine Zae mv fun p1 c1 h1=>Zae bv fun p2 c2 h2=>Zae nv fun p3 c3 h3=>Zae cv fun p4 c4 h4=>?_
 subst h1 h2 h3 h4
 obtain ⟨hx1,hx2⟩:=hx
 obtain ⟨hy1,hy2⟩:=hy
 obtain ⟨e1,e2⟩:=Yac x y
 obtain ⟨g,hg⟩:∃ g,g=Nat.gcd x.num.natAbs y.den:=⟨_,rfl⟩
 obtain ⟨h,hh⟩:∃ h,h=Nat.gcd y.num.natAbs x.den:=⟨_,rfl⟩
 rw [← hg,← hh] at e1 e2
 have hg0:g≠0:=by rw [hg];exact Nat.ne_of_gt (Nat.gcd_pos_of_pos_right _ y.den_pos)
 have hh0:h≠0:=by rw [hh];exact Nat.ne_of_gt (Nat.gcd_pos_of_pos_right _ x.den_pos)
 obtain ⟨e3,e4⟩:=Zjl hg0 (show g ∣ x.num.natAbs by rw [hg];exact Nat.gcd_dvd_left _ _)
 obtain ⟨e5,e6⟩:=Zjl hh0 (show h ∣ y.num.natAbs by rw [hh];exact Nat.gcd_dvd_left _ _)
 have e7:(x * y).num.natAbs=x.num.natAbs / g * (y.num.natAbs / h):=by rw [e1,Int.natAbs_mul,e3,e5]
 have e8 : decide ((x * y).num < 0)=(!decide (decide (x.num < 0)=decide (y.num < 0))&&decide (x.num.natAbs / g * (y.num.natAbs / h)≠0)):=by
  rw [← e7,e1]
  generalize hA:x.num / (g:Int)=a at e3 e4
  generalize hB:y.num / (h:Int)=b at e5 e6
  have q1:decide (x.num < 0)=decide (a < 0)∨a=0:=by
   by_cases ha:a=0
   ·exact .inr ha
   ·rw [← e3] at e4;rw [e4,decide_eq_true (show a.natAbs≠0 by omega),Bool.and_true];exact .inl rfl
  have q2:decide (y.num < 0)=decide (b < 0)∨b=0:=by
   by_cases hb:b=0
   ·exact .inr hb
   ·rw [← e5] at e6;rw [e6,decide_eq_true (show b.natAbs≠0 by omega),Bool.and_true];exact .inl rfl
  rcases q1 with q1|q1
  ·rcases q2 with q2|q2
   ·rw [q1,q2,Bool.eq_iff_iff,decide_eq_true_eq]
    simp only [Bool.and_eq_true,Bool.not_eq_true',decide_eq_false_iff_not,decide_eq_true_eq]
    rcases Int.lt_trichotomy a 0 with k|k|k
    ·rcases Int.lt_trichotomy b 0 with l|l|l
     ·have:=Int.mul_pos_of_neg_of_neg k l
      simp [k,l];omega
     ·subst l;simp
     ·have:=Int.mul_neg_of_neg_of_pos k l
      have hl:¬ b < 0:=by omega
      simp [k,hl];omega
    ·subst k;simp
    ·rcases Int.lt_trichotomy b 0 with l|l|l
     ·have:=Int.mul_neg_of_pos_of_neg k l
      have hk:¬ a < 0:=by omega
      simp [l,hk];omega
     ·subst l;simp
     ·have:=Int.mul_pos k l
      have hk:¬ a < 0:=by omega
      have hl:¬ b < 0:=by omega
      simp [hk,hl];omega
   ·subst q2;simp
  ·subst q1;simp
 have la:(mag (x.num.natAbs / g)).length≤2000000:=Nat.le_trans (Zah (Nat.div_le_self _ _)) hx1
 have lb:(mag (x.den / h)).length≤2000000:=Nat.le_trans (Zah (Nat.div_le_self _ _)) hx2
 have lc:(mag (y.num.natAbs / h)).length≤2000000:=Nat.le_trans (Zah (Nat.div_le_self _ _)) hy1
 have ld:(mag (y.den / g)).length≤2000000:=Nat.le_trans (Zah (Nat.div_le_self _ _)) hy2
 have lg:(mag g).length≤2000000:=Nat.le_trans (Zah (by rw [hg];exact Nat.gcd_le_right _ y.den_pos)) hy2
 have lh:(mag h).length≤2000000:=Nat.le_trans (Zah (by rw [hh];exact Nat.gcd_le_right _ x.den_pos)) hx2
 unfold RatR
 refine Zab Tryz.func114 rfl Tryz.ntmps114 rfl ?_
 repeat' first|refine Kz ?_|intro _
 refine TL.call rfl rfl rfl (Zku (a:=x.num.natAbs) (b:=y.den) (by omega) (by omega)) ?_
 rintro _ _ ⟨pg,cg,rfl,rfl⟩
 rw [← hg]
 repeat' first|refine Kz ?_|intro _
 refine TL.call rfl rfl rfl (Zku (a:=y.num.natAbs) (b:=x.den) (by omega) (by omega)) ?_
 rintro _ _ ⟨ph,ch,rfl,rfl⟩
 rw [← hh]
 repeat' first|refine Kz ?_|intro _
 refine TL.call rfl rfl rfl (Zby (a:=x.num.natAbs) (b:=g) hg0 (by omega) (by omega)) ?_
 rintro _ _ ⟨pa,ca,pa',ca',rfl,rfl⟩
 repeat' first|refine Kz ?_|intro _
 refine TL.call rfl rfl rfl (Zby (a:=x.den) (b:=h) hh0 (by omega) (by omega)) ?_
 rintro _ _ ⟨pb,cb,pb',cb',rfl,rfl⟩
 repeat' first|refine Kz ?_|intro _
 refine TL.call rfl rfl rfl (Zby (a:=y.num.natAbs) (b:=h) hh0 (by omega) (by omega)) ?_
 rintro _ _ ⟨pc,cc,pc',cc',rfl,rfl⟩
 repeat' first|refine Kz ?_|intro _
 refine TL.call rfl rfl rfl (Zby (a:=y.den) (b:=g) hg0 (by omega) (by omega)) ?_
 rintro _ _ ⟨pd,cd,pd',cd',rfl,rfl⟩
 repeat' first|refine Kz ?_|intro _
 refine Zam (.take 0 (.take 1 (.take 3 (.take 4 (.take 5 (.take 6 (.take 7 (.take 8 (.take 9 (.take 11 (.take 12 (.all [(2,.all [(10,.all [(13,.take 14 (.all [(15,.done)]))])])])))))))))))) ?_
 repeat' first|refine Kf ?_|intro _|constructor
 iterate 3
  all_goals
   first
    | (refine T1.callv rfl rfl rfl rfl rfl (Zcy (v:=.slice pa (mag (x.num.natAbs / g)).length ca) (o:=.slice pc (mag (y.num.natAbs / h)).length cc) (a:=x.num.natAbs / g) (b:=y.num.natAbs / h) (by omega) (by omega)) ?_
       rintro _ _ ⟨qa,ka,rfl,rfl⟩)
    | (refine T1.callv rfl rfl rfl rfl rfl (Zcy (v:=.slice pb (mag (x.den / h)).length cb) (o:=.slice pd (mag (y.den / g)).length cd) (a:=x.den / h) (b:=y.den / g) (by omega) (by omega)) ?_
       rintro _ _ ⟨qb,kb,rfl,rfl⟩)
    | (refine T1.callv rfl rfl rfl rfl rfl (Zbu (v:=.slice qa (mag (x.num.natAbs / g * (y.num.natAbs / h))).length ka) (n:=x.num.natAbs / g * (y.num.natAbs / h))) ?_
       rintro _ _ ⟨rfl,rfl⟩)
   repeat' first|refine Kf ?_|intro _|constructor
 all_goals
  (refine Zac ?_)
  refine ⟨_,⟨qa,ka,qb,kb,?_,rfl⟩,?_⟩
  ·rw [e7,e8,e2]
  ·rw [e7,e2]<;>(exact Zaa)
theorem Zz0 (h0:x≠0) [hm:FtIn As mv Nat (cN .u32) (mag x.num.natAbs)] [hb:FtIn As bv Nat (cN .u32) (mag x.den)] :
  CallsS Tryz.prog w0 121 [.agg #[mv,.bool (decide (x.num < 0)),bv]] As (RatR As x⁻¹):=by
 refine Zae mv fun p1 c1 h1=>Zae bv fun p2 c2 h2=>?_
 subst h1 h2
 obtain ⟨e1,e2⟩:=Zu4 x h0
 have hd:=x.den_pos
 have e3:(x⁻¹).num.natAbs=x.den:=by rw [e1];split<;>omega
 have e4:decide ((x⁻¹).num < 0)=(decide (x.num < 0)&&decide (x.den≠0)):=by
  rw [e1,Bool.eq_iff_iff,decide_eq_true_eq,Bool.and_eq_true,decide_eq_true_eq,decide_eq_true_eq]
  split<;>omega
 unfold RatR
 refine Zab Tryz.func121 rfl Tryz.ntmps121 rfl ?_
 repeat' first|refine Kz ?_|intro _
 refine Zam (.take 0 (.take 1 (.take 2 (.take 3 (.take 4 (.take 6 (.take 7 (.take 8 (.all [(5,.take 9 (.all [(10,.done)]))]))))))))) ?_
 repeat' first|refine Kf ?_|intro _|constructor
 refine Ku rfl (Zbu (v:=.slice p2 (mag x.den).length c2) (n:=x.den)) ?_
 repeat' first|refine Kf ?_|intro _|constructor
 (refine Zac ?_)
 refine ⟨_,⟨p2,c2,p1,c1,?_,rfl⟩,?_⟩
 ·rw [e3,e4,e2]
 ·rw [e3,e2]
  exact Ents.trans (Ents.dup (v:=.slice p1 (mag x.num.natAbs).length c1)) (Ents.trans (Ents.dup (v:=.slice p2 (mag x.den).length c2)) Zaa)
theorem Z6v [hm:RdIn As mv Nat (cN .u32) (mag x.num.natAbs)] [hb:RdIn As bv Nat (cN .u32) (mag x.den)] [hn:RdIn As nv Nat (cN .u32) (mag y.num.natAbs)] [hc:RdIn As cv Nat (cN .u32) (mag y.den)] (hx:Ln 40000000 x) (hy:Ln 40000000 y) :
  CQ Tryz.prog w0 124 [.agg #[mv,.bool (decide (x.num < 0)),bv],.agg #[nv,.bool (decide (y.num < 0)),cv]] As (.int .i64 (ordQ x y)):=by
 refine Zae mv fun p1 c1 h1=>Zae bv fun p2 c2 h2=>Zae nv fun p3 c3 h3=>Zae cv fun p4 c4 h4=>?_
 subst h1 h2 h3 h4
 obtain ⟨hx1,hx2⟩:=hx
 obtain ⟨hy1,hy2⟩:=hy
 have m1:(mag (x.num * (y.den:Int)).natAbs).length≤80000000:=by
  rw [Int.natAbs_mul,Int.natAbs_natCast]
  have:=Zav x.num.natAbs y.den
  omega
 have m2:(mag (-(y.num * (x.den:Int))).natAbs).length≤80000000:=by
  rw [Int.natAbs_neg,Int.natAbs_mul,Int.natAbs_natCast]
  have:=Zav y.num.natAbs x.den
  omega
 have e2:mag (y.num * (x.den:Int)).natAbs=mag (-(y.num * (x.den:Int))).natAbs:=by rw [Int.natAbs_neg]
 refine Zab Tryz.func124 rfl Tryz.ntmps124 rfl ?_
 repeat' first|refine Kz ?_|intro _
 refine Zam (.take 0 (.take 1 (.take 2 (.take 3 (.take 5 (.take 6 (.take 7 (.take 8 (.all [(4,.all [(9,.all [(10,.all [(11,.all [(12,.take 13 (.done))])])])])]))))))))) ?_
 repeat' first|refine Kf ?_|intro _|constructor
 iterate 2
  all_goals
   first
    | (refine T1.callv rfl rfl rfl rfl rfl (Zgt (v:=.slice p1 (mag x.num.natAbs).length c1) (o:=.slice p4 (mag y.den).length c4) (x:=x.num) (m:=y.den) (by omega) (by omega)) ?_
       rintro _ _ ⟨qa,ka,rfl,rfl⟩)
    | (refine T1.callv rfl rfl rfl rfl rfl (Zgt (v:=.slice p3 (mag y.num.natAbs).length c3) (o:=.slice p2 (mag x.den).length c2) (x:=y.num) (m:=x.den) (by omega) (by omega)) ?_
       rintro _ _ ⟨qb,kb,rfl,rfl⟩)
   repeat' first|refine Kf ?_|intro _|constructor
 refine Ku rfl (Zf8 (v:=.slice qb (mag (y.num * (x.den:Int)).natAbs).length kb) (x:=y.num * (x.den:Int))) ?_
 repeat' first|refine Kf ?_|intro _|constructor
 rw [e2]
 refine T1.callv rfl rfl rfl rfl rfl (Zoi (v:=.slice qa (mag (x.num * (y.den:Int)).natAbs).length ka) (o:=.slice qb (mag (-(y.num * (x.den:Int))).natAbs).length kb) (x:=x.num * (y.den:Int)) (y:=-(y.num * (x.den:Int))) (by omega) (by omega)) ?_
 rintro _ _ ⟨qc,kc,rfl,rfl⟩
 repeat' first|refine Kf ?_|intro _|constructor
 refine Ku rfl (Z1r (v:=.slice qc (mag (x.num * (y.den:Int)+-(y.num * (x.den:Int))).natAbs).length kc) (x:=x.num * (y.den:Int)+-(y.num * (x.den:Int)))) ?_
 repeat' first|refine Kf ?_|intro _|constructor
 (refine Zac ?_)
 exact ⟨_,⟨by rw [ordQ,Int.sub_eq_add_neg],rfl⟩,Zaa⟩
def minQ (x y:Rat):Rat:=if y < x then y else x
def maxQ (x y:Rat):Rat:=if x < y then y else x
def nearQ (x:Rat) (k:Nat):Int:=(x.num * ((k * 2:Nat):Int)+(x.den:Int)) / ((x.den * 2:Nat):Int)
theorem Ya2 {k:Nat} {sv:Value} [hm:RdIn As mv Nat (cN .u32) (mag x.num.natAbs)] [hb:RdIn As bv Nat (cN .u32) (mag x.den)] [hs:RdIn As sv Nat (cN .u32) (mag k)] (hx:Ln 1000000 x) (hk:(mag k).length≤1000000) :
  CallsS Tryz.prog w0 195 [.agg #[mv,.bool (decide (x.num < 0)),bv],sv] As (SgnR As (nearQ x k)):=by
 refine Zae mv fun p1 c1 h1=>Zae bv fun p2 c2 h2=>Zae sv fun p3 c3 h3=>?_
 subst h1 h2 h3
 obtain ⟨hx1,hx2⟩:=hx
 have hm2:mag 2=[2]:=Zel (by omega) (by omega)
 have l2:(mag 2).length=1:=by rw [hm2];rfl
 have m1:(mag (k * 2)).length≤1000001:=by have:=Zav k 2;omega
 have m2:(mag (x.num * ((k * 2:Nat):Int)).natAbs).length≤2000001:=by
  rw [Int.natAbs_mul,Int.natAbs_natCast]
  have:=Zav x.num.natAbs (k * 2)
  omega
 have m3:(mag (x.den * 2)).length≤1000001:=by have:=Zav x.den 2;omega
 have hd:=x.den_pos
 obtain ⟨top,htop⟩:∃ top,top=x.num * ((k * 2:Nat):Int)+(x.den:Int):=⟨_,rfl⟩
 have m4:(mag top.natAbs).length≤2000002:=by
  rw [htop]
  refine Nat.le_trans (Zah (Int.natAbs_add_le _ _)) (Nat.le_trans (Zgb _ _) ?_)
  rw [Int.natAbs_natCast]
  omega
 have ed:((x.den:Nat):Int).natAbs=x.den:=Int.natAbs_natCast _
 have eb:(false&&decide (x.den≠0))=decide (((x.den:Nat):Int) < 0):=by rw [Bool.false_and,eq_comm,decide_eq_false_iff_not];omega
 refine Zab Tryz.func195 rfl Tryz.ntmps195 rfl ?_
 repeat' first|refine Kz ?_|intro _
 rename_i b2 b4 bt
 refine Tri.ents (Zbz (cN .u32) (mag 2) (n:=1) (cap:=1) (by rw [hm2];rfl) (by rw [hm2];rfl) (by rw [hm2];rfl)) ?_
 refine Tri.mid (fun e' As'=>∃ pt ct b6,e'=[(2,.pointer (some ⟨b2,0,none⟩)),(4,.pointer (some ⟨b4,0,none⟩)),(5,.slice (some ⟨bt,0,none⟩) 1 1),(6,.pointer (some ⟨b6,0,none⟩))] ∧
  As'=.cl b6 [.slice pt (mag top.natAbs).length ct,.bool (decide (top < 0))] 190::.ft (rd (cN .u32) (.slice pt (mag top.natAbs).length ct) (mag top.natAbs))::.ow (cN .u32) 256 (.slice (some ⟨bt,0,none⟩) 1 1) (mag 2) ::
   .cl b4 [.slice none 0 0,.bool false] 190::.cl b2 [.slice p1 (mag x.num.natAbs).length c1,.bool (decide (x.num < 0)),.slice p2 (mag x.den).length c2] 192::As) ?_ ?_
 ·refine Zam (.take 0 (.take 1 (.take 2 (.take 3 (.take 6 (.take 7 (.all [(4,.all [(5,.all [(8,.all [(9,.all [(10,.all [(11,.done)])]),(10,.all [(9,.all [(11,.done)])])]),(10,.all [(8,.all [(9,.all [(11,.done)])])])]),(10,.all [(5,.all [(8,.all [(9,.all [(11,.done)])])])])]),(10,.all [(4,.all [(5,.all [(8,.all [(9,.all [(11,.done)])])])])])]))))))) ?_
  repeat' first|refine Kf ?_|intro _|constructor
  iterate 4
   all_goals
    first
     | (refine T1.callv rfl rfl rfl rfl rfl (Zcy (v:=.slice p3 (mag k).length c3) (o:=.slice (some ⟨bt,0,none⟩) 1 1) (a:=k) (b:=2) (by omega) (by omega)) ?_
        rintro _ _ ⟨qa,ka,rfl,rfl⟩)
     | (refine T1.callv rfl rfl rfl rfl rfl (Zgt (v:=.slice p1 (mag x.num.natAbs).length c1) (o:=.slice qa (mag (k * 2)).length ka) (x:=x.num) (m:=k * 2) (by omega) (by omega)) ?_
        rintro _ _ ⟨qb,kb,rfl,rfl⟩)
     | (refine Ku rfl (Zbu (v:=.slice p2 (mag x.den).length c2) (n:=x.den) (b:=false)) ?_
        rw [eb])
     | (refine T1.callv rfl rfl rfl rfl rfl (Zoi (v:=.slice qb (mag (x.num * ((k * 2:Nat):Int)).natAbs).length kb) (o:=.slice p2 (mag x.den).length c2) (x:=x.num * ((k * 2:Nat):Int)) (y:=((x.den:Nat):Int)) (by omega) (by rw [ed];omega)) ?_
        rw [← htop]
        rintro _ _ ⟨qc,kc,rfl,rfl⟩)
    repeat' first|refine Kf ?_|intro _|constructor
  all_goals exact Post.cut _ _ ⟨qc,kc,_,rfl,rfl⟩ Zad Zaa
 rintro _ _ ⟨pt,ct,b6,rfl,rfl⟩
 repeat' first|refine Kz ?_|intro _
 refine Zam (.take 0 (.take 1 (.take 2 (.take 3 (.all [(4,.all [(5,.all [(6,.done)])])]))))) ?_
 repeat' first|refine Kf ?_|intro _|constructor
 refine T1.callv rfl rfl rfl rfl rfl (Zcy (v:=.slice p2 (mag x.den).length c2) (o:=.slice (some ⟨bt,0,none⟩) 1 1) (a:=x.den) (b:=2) (by omega) (by omega)) ?_
 rintro _ _ ⟨qa,ka,rfl,rfl⟩
 repeat' first|refine Kf ?_|intro _|constructor
 refine T1.callv rfl rfl rfl rfl rfl (Z7t (v:=.slice pt (mag top.natAbs).length ct) (o:=.slice qa (mag (x.den * 2)).length ka) (x:=top) (d:=x.den * 2) (by omega) (by omega) (by omega)) ?_
 rintro _ _ ⟨qb,kb,rfl,rfl⟩
 repeat' first|refine Kf ?_|intro _|constructor
 (refine Zac ?_)
 refine ⟨_,⟨qb,kb,by rw [nearQ,← htop],by rw [nearQ,← htop]⟩,Zaa⟩
theorem Zd7 (ht:Tab w0) [hm:RdIn As mv Nat (cN .u32) (mag x.num.natAbs)] [hb:RdIn As bv Nat (cN .u32) (mag x.den)] (hx:Ln 1000000 x) :
  CQ Tryz.prog w0 122 [.agg #[mv,.bool (decide (x.num < 0)),bv]] As (.tuple #[.agg #[.string ⟨(outF x).1.toArray⟩,.string ⟨(outF x).2.1.toArray⟩],.int .i64 (outF x).2.2]):=by
 refine Zae mv fun p1 c1 h1=>Zae bv fun p2 c2 h2=>?_
 subst h1 h2
 obtain ⟨hx1,hx2⟩:=hx
 have big:∀ {n:Nat},Lib.nDigits n≤600→(mag n).length≤1000:=fun {n} h=>by
  by_cases h0:n=0
  ·rw [h0,Zaz];simp
  ·have h3:(mag n).length≠0:=fun h=>h0 (Zxq.1 h)
   obtain ⟨d,hd⟩:∃ d,(mag n)[(mag n).length - 1]?=some d:=⟨_,List.getElem?_eq_getElem (by omega)⟩
   have:=Zck _ (Zb5 hd).2.1
   omega
 have o1:(outW x.num).2=0↔Lib.nDigits x.num.natAbs≤600:=by
  unfold outW;split<;>simp<;>omega
 have o2:(outW (x.den:Int)).2=0↔Lib.nDigits x.den≤600:=by
  unfold outW;rw [Int.natAbs_natCast];split<;>simp<;>omega
 have hout:outF x=if Lib.nDigits x.num.natAbs≤600∧Lib.nDigits x.den≤600 then (textI x.num,textI (x.den:Int),0) else ([],[],6):=by
  unfold outF;simp only [o1,o2]
 have etd:textI (x.den:Int)=Lib.decDigits x.den:=by
  have:¬ ((x.den:Int) < 0):=by omega
  simp only [textI,Lib.itoa,if_neg this,Int.toNat_natCast]
 rw [hout]
 refine Zab Tryz.func122 rfl Tryz.ntmps122 rfl ?_
 repeat' first|refine Kz ?_|intro _
 rename_i b1 b2
 refine Kt rfl (Zjf ht (n:=x.num.natAbs) (by omega)) ?_
 by_cases h1:Lib.nDigits x.num.natAbs≤600
 ·repeat' first|refine Kz ?_|intro _
  refine Kt rfl (Zjf ht (n:=x.den) (by omega)) ?_
  by_cases h2:Lib.nDigits x.den≤600
  ·rw [if_pos ⟨h1,h2⟩]
   repeat' first|refine Kz ?_|intro _
   refine Zag (.cl b1 [.slice p1 (mag x.num.natAbs).length c1,.bool (decide (x.num < 0)),.slice p2 (mag x.den).length c2] 192::As) [] (.take 0 (.take 1 (.take 3 (.take 4 (.all [(2,.all [(5,.take 6 (.all [(7,.take 8 (.done))]))])]))))) ?_
   repeat' first|refine Kf ?_|intro _|constructor
   iterate 2
    all_goals
     first
      | (refine T1.callv rfl rfl rfl rfl rfl (Z1i ht (v:=.slice p1 (mag x.num.natAbs).length c1) (z:=x.num) (big h1)) ?_
         rintro _ _ ⟨rfl,rfl⟩)
      | (refine T1.callv rfl rfl rfl rfl rfl (Zfw ht (v:=.slice p2 (mag x.den).length c2) (n:=x.den) (big h2)) ?_
         rintro _ _ ⟨rfl,rfl⟩)
     repeat' first|refine Kf ?_|intro _|constructor
   all_goals
    (refine Zac ?_)
    exact ⟨_,⟨by rw [etd],rfl⟩,Zaa⟩
  ·rw [if_neg (fun h=>h2 h.2)]
   repeat' first|refine Kz ?_|intro _
   exact Kv
 ·rw [if_neg (fun h=>h1 h.1)]
  repeat' first|refine Kz ?_|intro _
  exact Kv
end
end Go.Proofs.YtbfgldlfciimiaaGreatDoor.Q
