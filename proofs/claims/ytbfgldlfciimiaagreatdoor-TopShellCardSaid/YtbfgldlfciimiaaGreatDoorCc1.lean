/- Walks: frac: integers. -/
import Derived.Test.YtbfgldlfciimiaaGreatDoorCb4
import Derived.Test.YtbfgldlfciimiaaGreatDoorCp1
import Derived.Test.YtbfgldlfciimiaaGreatDoorWb1
set_option maxHeartbeats 1000000
namespace Go.Sx
open Go
theorem Zs3 {x:Int} {m:Nat}:decide (x * (m:Int) < 0)=(decide (x < 0)&&decide (x.natAbs * m≠0)):=by
 rw [Bool.eq_iff_iff,decide_eq_true_eq,Bool.and_eq_true,decide_eq_true_eq,decide_eq_true_eq]
 rcases Nat.eq_zero_or_pos m with h|h
 ·subst h;simp
 ·constructor
  ·intro h1
   have h2:x < 0:=by
    rcases Int.lt_or_le x 0 with h2|h2
    ·exact h2
    ·have:=Int.mul_nonneg h2 (show (0:Int)≤m by omega);omega
   exact ⟨h2,Nat.mul_ne_zero (by omega) (by omega)⟩
  ·rintro ⟨h1,_⟩
   exact Int.mul_neg_of_neg_of_pos h1 (by omega)
theorem Zrv {x:Int} {d:Nat} (hd:d≠0):(x / (d:Int)).natAbs=(if x < 0∧x.natAbs % d≠0 then x.natAbs / d+1 else x.natAbs / d)∧decide (x / (d:Int) < 0)=(decide (x < 0)&&decide ((if x < 0∧x.natAbs % d≠0 then x.natAbs / d+1 else x.natAbs / d)≠0)):=by
 have hm:=Nat.div_add_mod x.natAbs d
 have hl:=Nat.mod_lt x.natAbs (Nat.pos_of_ne_zero hd)
 generalize x.natAbs / d=q at *
 generalize x.natAbs % d=r at *
 have key:x / (d:Int)=if x < 0 then (if r≠0 then -((q:Int)+1) else -(q:Int)) else (q:Int):=by
  have hc:((d * q+r:Nat):Int)=(d:Int) * (q:Int)+(r:Int):=by push_cast;rfl
  split
  ·rename_i hx
   have hx2:x=-((d:Int) * (q:Int)+(r:Int)):=by omega
   split
   ·rw [hx2]
    have e:-((d:Int) * (q:Int)+(r:Int))=((d:Int) - (r:Int))+(d:Int) * (-((q:Int)+1)):=by grind
    rw [e,Int.add_mul_ediv_left _ _ (by omega),Int.ediv_eq_zero_of_lt (by omega) (by omega),Int.zero_add]
   ·rename_i hr
    have hr:r=0:=by omega
    subst hr
    rw [hx2]
    have e:-((d:Int) * (q:Int)+((0:Nat):Int))=(d:Int) * (-(q:Int)):=by grind
    rw [e,Int.mul_ediv_cancel_left _ (by omega)]
  ·rename_i hx
   have hx2:x=(r:Int)+(d:Int) * (q:Int):=by omega
   rw [hx2,Int.add_mul_ediv_left _ _ (by omega),Int.ediv_eq_zero_of_lt (by omega) (by omega),Int.zero_add]
 rw [key]
 by_cases hx:x < 0
 ·by_cases hr:r≠0
  ·simp only [hx,hr,if_true,and_self,decide_true,Bool.true_and,not_false_eq_true,ne_eq]
   refine ⟨by omega,?_⟩
   rw [Bool.eq_iff_iff,decide_eq_true_eq,decide_eq_true_eq];omega
  ·simp only [hx,hr,if_true,if_false,and_false,decide_true,Bool.true_and]
   refine ⟨by omega,?_⟩
   rw [Bool.eq_iff_iff,decide_eq_true_eq,decide_eq_true_eq];omega
 ·simp only [hx,if_false,false_and,decide_false,Bool.false_and]
  refine ⟨by omega,?_⟩
  rw [decide_eq_false_iff_not];omega
end Go.Sx
namespace Go.Proofs.YtbfgldlfciimiaaGreatDoor.Q
open Go Go.Sx
variable {w0:World} {As:List Ent}
theorem Zbw {v:Value} {n:Nat} {b:Bool} [hr:RdIn As v Nat (cN .u32) (mag n)]:CQ Tryz.prog w0 147 [v,.bool b] As (.agg #[v,.bool (b&&decide (n≠0))]):=by
 refine Zae v fun p cap hv=>?_
 subst hv
 refine Zab Tryz.func147 rfl Tryz.ntmps147 rfl ?_
 cases b
 ·repeat' first|refine Kz ?_|intro _
  exact Kv
 ·repeat' first|refine Kz ?_|intro _
  refine TL.call rfl rfl rfl Zc3 ?_
  rintro _ As ⟨rfl,rfl⟩
  repeat' first|refine Kz ?_|intro _
  (refine Zac ?_)
  exact ⟨_,⟨by simp,rfl⟩,Zaa⟩
theorem Zib {s:List UInt8} {z:Int} (h:readW s=some z):CallsS Tryz.prog w0 145 [.string ⟨s.toArray⟩] As (SgnR As z):=by
 refine Zab Tryz.func145 rfl Tryz.ntmps145 rfl ?_
 repeat' first|refine Kz ?_|intro _
 refine TL.call rfl rfl rfl Zj2 ?_
 rintro _ As ⟨rfl,rfl⟩
 obtain ⟨neg,hneg⟩:∃ neg,Lib.hasPrefix s [45]=neg:=⟨_,rfl⟩
 obtain ⟨l,hll⟩:∃ l,Lib.trimPrefix s [45]=l:=⟨_,rfl⟩
 rw [hneg,hll]
 have hrw:=Zh6 hneg hll
 rw [h] at hrw
 split at hrw
 ·rename_i hc
  obtain ⟨h0,h6,hd,h48⟩:=hc
  rw [Option.some.injEq] at hrw
  have e1:z.natAbs=numOf l:=by rw [hrw];split<;>omega
  have e2:decide (z < 0)=neg:=by
   rw [hrw]
   cases neg
   ·simp
   ·have:=Ze2 hd h0 fun h1=>by have:=(h48 h1).1;cases this
    simp;omega
  repeat' first|refine Kz ?_|intro _
  refine TL.call rfl rfl rfl (Zls hd h0 (by omega)) ?_
  rintro _ _ ⟨p,cap,rfl,rfl⟩
  repeat' first|refine Kz ?_|intro _
  (refine Zac ?_)
  exact ⟨_,⟨p,cap,by rw [e1,e2];rfl,by rw [e1]⟩,Zaa⟩
 ·cases hrw
theorem Zy8 (ht:Tab w0) {v:Value} {z:Int} [hr:RdIn As v Nat (cN .u32) (mag z.natAbs)] (hl:(mag z.natAbs).length≤1000) :
  CQ Tryz.prog w0 168 [.agg #[v,.bool (decide (z < 0))]] As (.string ⟨(textI z).toArray⟩):=by
 refine Zae v fun pv cv hv=>?_
 subst hv
 refine Zab Tryz.func168 rfl Tryz.ntmps168 rfl ?_
 repeat' first|refine Kz ?_|intro _
 (refine Kx (fun hc=>?_) fun hc=>?_)
 ·repeat' first|refine Kz ?_|intro _
  refine TL.call rfl rfl rfl (Zfb ht hl) ?_
  rintro _ As ⟨rfl,rfl⟩
  have hdl:=Zbp z.natAbs
  have hdm:=Zhg z.natAbs
  repeat' first|refine Kz ?_|intro _
  (refine Zac ?_)
  refine ⟨_,⟨?_,rfl⟩,Zaa⟩
  simp only [textI,Lib.itoa,if_pos hc]
  rfl
 ·repeat' first|refine Kz ?_|intro _
  refine TL.call rfl rfl rfl (Zfb ht hl) ?_
  rintro _ As ⟨rfl,rfl⟩
  repeat' first|refine Kz ?_|intro _
  (refine Zac ?_)
  refine ⟨_,⟨?_,rfl⟩,Zaa⟩
  simp only [textI,Lib.itoa,if_neg hc]
  rw [show z.natAbs=z.toNat by omega]
theorem Zfm {v:Value} {x:Int} [hf:RdIn As v Nat (cN .u32) (mag x.natAbs)]:CQ Tryz.prog w0 170 [.agg #[v,.bool (decide (x < 0))]] As (.agg #[v,.bool (decide (-x < 0))]):=by
 refine Zae v fun pv cv hv=>?_
 subst hv
 refine Zab Tryz.func170 rfl Tryz.ntmps170 rfl ?_
 have e1:(!decide (x < 0)&&decide (x.natAbs≠0))=decide (-x < 0):=by
  rw [Bool.eq_iff_iff]
  simp only [Bool.and_eq_true,Bool.not_eq_true',decide_eq_false_iff_not,decide_eq_true_eq]
  omega
 repeat' first|refine Kz ?_|intro _
 refine TL.call rfl rfl rfl (Zbw (n:=x.natAbs)) ?_
 rintro _ As ⟨rfl,rfl⟩
 rw [e1]
 repeat' first|refine Kz ?_|intro _
 exact Kv
theorem Zzh {v:Value} {x:Int} [hf:RdIn As v Nat (cN .u32) (mag x.natAbs)]:CQ Tryz.prog w0 165 [.agg #[v,.bool (decide (x < 0))]] As (.int .i64 (signI x)):=by
 refine Zae v fun pv cv hv=>?_
 subst hv
 refine Zab Tryz.func165 rfl Tryz.ntmps165 rfl ?_
 repeat' first|refine Kz ?_|intro _
 refine TL.call rfl rfl rfl (Zc3 (n:=x.natAbs)) ?_
 rintro _ As ⟨rfl,rfl⟩
 by_cases h0:x.natAbs=0
 ·repeat' first|refine Kz ?_|intro _
  (refine Zac ?_)
  exact ⟨_,⟨by rw [signI,if_neg (by omega),if_pos (by omega)],rfl⟩,Zaa⟩
 ·by_cases h1:x < 0
  ·repeat' first|refine Kz ?_|intro _
   (refine Zac ?_)
   exact ⟨_,⟨by rw [signI,if_pos h1],rfl⟩,Zaa⟩
  ·repeat' first|refine Kz ?_|intro _
   (refine Zac ?_)
   exact ⟨_,⟨by rw [signI,if_neg h1,if_neg (by omega)],rfl⟩,Zaa⟩
theorem Zm7 {v o:Value} {x y:Int} [hf:RdIn As v Nat (cN .u32) (mag x.natAbs)] [hg:RdIn As o Nat (cN .u32) (mag y.natAbs)] (ha:(mag x.natAbs).length≤100000000) (hb:(mag y.natAbs).length≤100000000) :
  CallsS Tryz.prog w0 161 [.agg #[v,.bool (decide (x < 0))],.agg #[o,.bool (decide (y < 0))]] As (SgnR As (x+y)):=by
 refine Zae v fun pv cv hv=>Zae o fun po co ho=>?_
 subst hv ho
 refine Zab Tryz.func161 rfl Tryz.ntmps161 rfl ?_
 repeat' first|refine Kz ?_|intro _
 (refine Kx (fun hc=>?_) fun hc=>?_)
 ·have hs:(x < 0∧y < 0)∨(¬ x < 0∧¬ y < 0):=by
   by_cases h1:x < 0<;>by_cases h2:y < 0<;>simp [h1,h2] at hc<;>omega
  have e1:(x+y).natAbs=x.natAbs+y.natAbs:=by omega
  have e2:decide (x+y < 0)=(decide (x < 0)&&decide (x.natAbs+y.natAbs≠0)):=by
   rcases hs with ⟨h1,h2⟩|⟨h1,h2⟩
   ·simp only [h1,decide_true,Bool.true_and];rw [Bool.eq_iff_iff,decide_eq_true_eq,decide_eq_true_eq];omega
   ·simp only [h1,decide_false,Bool.false_and];rw [decide_eq_false_iff_not];omega
  repeat' first|refine Kz ?_|intro _
  refine Zai (.take 0 (.take 1 (.take 2 (.take 3 (.take 5 (.take 6 (.all [(4,.all [(7,.all [(8,.done)])])]))))))) ?_
  repeat' first|refine Kf ?_|intro _|constructor
  refine T1.call rfl rfl rfl rfl (Zow ha hb) ?_
  rintro _ _ ⟨p,cap,rfl,rfl⟩
  repeat' first|refine Kf ?_|intro _|constructor
  refine Kw rfl (Zbw (n:=x.natAbs+y.natAbs)) ?_
  repeat' first|refine Kf ?_|intro _|constructor
  (refine Zac ?_)
  exact ⟨_,Zdv e1 e2,Zaa⟩
 ·have hs:(x < 0∧¬ y < 0)∨(¬ x < 0∧y < 0):=by
   by_cases h1:x < 0<;>by_cases h2:y < 0<;>simp [h1,h2] at hc<;>omega
  repeat' first|refine Kz ?_|intro _
  refine TL.call rfl rfl rfl (Zc1 ha hb) ?_
  rintro _ As ⟨rfl,rfl⟩
  repeat' first|refine Kz ?_|intro _
  (refine Kx (fun hc=>?_) fun hc=>?_)
  ·have hlt:=Yef.1 hc
   have e1:(x+y).natAbs=y.natAbs - x.natAbs:=by omega
   have e2:decide (x+y < 0)=(decide (y < 0)&&decide (y.natAbs - x.natAbs≠0)):=by
    by_cases h2:y < 0
    ·simp only [h2,decide_true,Bool.true_and];rw [Bool.eq_iff_iff,decide_eq_true_eq,decide_eq_true_eq];omega
    ·simp only [h2,decide_false,Bool.false_and];rw [decide_eq_false_iff_not];omega
   repeat' first|refine Kz ?_|intro _
   refine Zai (.take 0 (.take 1 (.take 2 (.take 3 (.take 5 (.take 6 (.all [(4,.all [(7,.all [(8,.done)])])]))))))) ?_
   repeat' first|refine Kf ?_|intro _|constructor
   refine T1.call rfl rfl rfl rfl (Zid (by omega) hb) ?_
   rintro _ _ ⟨p,cap,rfl,rfl⟩
   repeat' first|refine Kf ?_|intro _|constructor
   refine Kw rfl (Zbw (n:=y.natAbs - x.natAbs)) ?_
   repeat' first|refine Kf ?_|intro _|constructor
   (refine Zac ?_)
   exact ⟨_,Zdv e1 e2,Zaa⟩
  ·have hlt:¬ x.natAbs < y.natAbs:=fun h=>hc (Yef.2 h)
   have e1:(x+y).natAbs=x.natAbs - y.natAbs:=by omega
   have e2:decide (x+y < 0)=(decide (x < 0)&&decide (x.natAbs - y.natAbs≠0)):=by
    by_cases h2:x < 0
    ·simp only [h2,decide_true,Bool.true_and];rw [Bool.eq_iff_iff,decide_eq_true_eq,decide_eq_true_eq];omega
    ·simp only [h2,decide_false,Bool.false_and];rw [decide_eq_false_iff_not];omega
   repeat' first|refine Kz ?_|intro _
   refine Zai (.take 0 (.take 1 (.take 2 (.take 3 (.take 5 (.take 6 (.all [(4,.all [(7,.all [(8,.done)])])]))))))) ?_
   repeat' first|refine Kf ?_|intro _|constructor
   refine T1.call rfl rfl rfl rfl (Zid (by omega) ha) ?_
   rintro _ _ ⟨p,cap,rfl,rfl⟩
   repeat' first|refine Kf ?_|intro _|constructor
   refine Kw rfl (Zbw (n:=x.natAbs - y.natAbs)) ?_
   repeat' first|refine Kf ?_|intro _|constructor
   (refine Zac ?_)
   exact ⟨_,Zdv e1 e2,Zaa⟩
theorem Zf9 {v o:Value} {x:Int} {m:Nat} [hf:RdIn As v Nat (cN .u32) (mag x.natAbs)] [hg:RdIn As o Nat (cN .u32) (mag m)] (ha:(mag x.natAbs).length≤100000000) (hb:(mag m).length≤100000000) :
  CallsS Tryz.prog w0 160 [.agg #[v,.bool (decide (x < 0))],o] As (SgnR As (x * (m:Int))):=by
 refine Zae v fun pv cv hv=>Zae o fun po co ho=>?_
 subst hv ho
 have e1:(x * (m:Int)).natAbs=x.natAbs * m:=by rw [Int.natAbs_mul,Int.natAbs_natCast]
 refine Zab Tryz.func160 rfl Tryz.ntmps160 rfl ?_
 repeat' first|refine Kz ?_|intro _
 refine Zai (.take 0 (.take 1 (.take 2 (.take 4 (.take 5 (.all [(3,.all [(6,.all [(7,.done)])])])))))) ?_
 repeat' first|refine Kf ?_|intro _|constructor
 refine T1.call rfl rfl rfl rfl (Zcr (a:=x.natAbs) (b:=m) ha hb) ?_
 rintro _ _ ⟨p,cap,rfl,rfl⟩
 repeat' first|refine Kf ?_|intro _|constructor
 refine Kw rfl (Zbw (n:=x.natAbs * m)) ?_
 repeat' first|refine Kf ?_|intro _|constructor
 (refine Zac ?_)
 exact ⟨_,Zdv e1 Zs3,Zaa⟩
end Go.Proofs.YtbfgldlfciimiaaGreatDoor.Q
namespace Go.Sx
open Go
theorem Zil {z:Int} {h:Nat} (h0:h≠0) (hd:h ∣ z.natAbs):(z / (h:Int)).natAbs=z.natAbs / h∧decide (z / (h:Int) < 0)=(decide (z < 0)&&decide (z.natAbs / h≠0)):=by
 obtain ⟨e1,e2⟩:=Zrv (x:=z) h0
 have h1:z.natAbs % h=0:=Nat.mod_eq_zero_of_dvd hd
 rw [if_neg (by omega)] at e1 e2
 exact ⟨e1,e2⟩
def ordQ (x y:Rat):Int:=signI (x.num * (y.den:Int) - y.num * (x.den:Int))
theorem Z0f {x y:Rat}:ordQ x y < 0↔x < y:=by
 have h:=(Zos x y).1
 unfold ordQ signI
 rw [← h]
 split<;>(try split)<;>omega
theorem Ztk {x y:Rat}:0 < ordQ x y↔y < x:=by
 have h:=(Zos y x).1
 unfold ordQ signI
 rw [← h]
 split<;>(try split)<;>omega
end Go.Sx
namespace Go.Proofs.YtbfgldlfciimiaaGreatDoor.Q
open Go Go.Sx
variable {w0:World} {As:List Ent}
def RatR (As:List Ent) (r:Rat) (u:Value) (Bs:List Ent):Prop:=∃ p cap q cap',u=.agg #[.slice p (mag r.num.natAbs).length cap,.bool (decide (r.num < 0)),.slice q (mag r.den).length cap']∧Bs=.ft (rd (cN .u32) (.slice p (mag r.num.natAbs).length cap) (mag r.num.natAbs))::.ft (rd (cN .u32) (.slice q (mag r.den).length cap') (mag r.den))::As
def Ln (k:Nat) (r:Rat):Prop:=(mag r.num.natAbs).length≤k∧(mag r.den).length≤k
theorem Ln.mono {k l:Nat} {r:Rat} (h:Ln k r) (hk:k≤l):Ln l r:=⟨Nat.le_trans h.1 hk,Nat.le_trans h.2 hk⟩
theorem Ln.add {a b:Nat} {r s:Rat} (hr:Ln a r) (hs:Ln b s):Ln (a+b+1) (r+s):=by
 obtain ⟨r1,r2⟩:=hr
 obtain ⟨s1,s2⟩:=hs
 constructor
 ·rw [Rat.num_add]
  refine Nat.le_trans (Zaj (Int.natAbs_ediv_le_natAbs _ _)) ?_
  refine Nat.le_trans (Zaj (Int.natAbs_add_le _ _)) ?_
  refine Nat.le_trans (Zfo _ _) ?_
  rw [Int.natAbs_mul,Int.natAbs_mul,Int.natAbs_natCast,Int.natAbs_natCast]
  have h1:=Zav r.num.natAbs s.den
  have h2:=Zav s.num.natAbs r.den
  omega
 ·rw [Rat.den_add]
  refine Nat.le_trans (Zaj (Nat.div_le_self _ _)) ?_
  have h1:=Zav r.den s.den
  omega
theorem Ln.mul {a b:Nat} {r s:Rat} (hr:Ln a r) (hs:Ln b s):Ln (a+b) (r * s):=by
 obtain ⟨r1,r2⟩:=hr
 obtain ⟨s1,s2⟩:=hs
 constructor
 ·rw [Rat.num_mul]
  refine Nat.le_trans (Zaj (Int.natAbs_ediv_le_natAbs _ _)) ?_
  rw [Int.natAbs_mul]
  have h1:=Zav r.num.natAbs s.num.natAbs
  omega
 ·rw [Rat.den_mul]
  refine Nat.le_trans (Zaj (Nat.div_le_self _ _)) ?_
  have h1:=Zav r.den s.den
  omega
theorem Ln.neg {a:Nat} {r:Rat} (hr:Ln a r):Ln a (-r):=⟨by rw [Rat.neg_num,Int.natAbs_neg];exact hr.1,hr.2⟩
theorem Ln.inv {a:Nat} {r:Rat} (hr:Ln a r):Ln a r⁻¹:=by
 by_cases h:r=0
 ·subst h;rw [Rat.inv_zero];exact hr
 ·obtain ⟨h1,h2⟩:=Zta r h
  refine ⟨?_,by rw [h2];exact hr.1⟩
  rw [h1]
  have e:(if r.num < 0 then -(r.den:Int) else (r.den:Int)).natAbs=r.den:=by split<;>omega
  rw [e];exact hr.2
section
variable {mv bv nv cv:Value} {x y:Rat}
theorem Zwl [hm:FtIn As mv Nat (cN .u32) (mag x.num.natAbs)] [hb:FtIn As bv Nat (cN .u32) (mag x.den)] [hn:FtIn As nv Nat (cN .u32) (mag y.num.natAbs)] [hc:FtIn As cv Nat (cN .u32) (mag y.den)] (hx:Ln 2000000 x) (hy:Ln 2000000 y) :
  CallsS Tryz.prog w0 115 [.agg #[mv,.bool (decide (x.num < 0)),bv],.agg #[nv,.bool (decide (y.num < 0)),cv]] As (RatR As (x+y)):=by
 refine Zae mv fun p1 c1 h1=>Zae bv fun p2 c2 h2=>Zae nv fun p3 c3 h3=>Zae cv fun p4 c4 h4=>?_
 subst h1 h2 h3 h4
 obtain ⟨hx1,hx2⟩:=hx
 obtain ⟨hy1,hy2⟩:=hy
 obtain ⟨g,hg⟩:∃ g,g=Nat.gcd x.den y.den:=⟨_,rfl⟩
 obtain ⟨top,htop⟩:∃ top,top=x.num * ((y.den / g:Nat):Int)+y.num * ((x.den / g:Nat):Int):=⟨_,rfl⟩
 obtain ⟨h,hh⟩:∃ h,h=Nat.gcd top.natAbs g:=⟨_,rfl⟩
 obtain ⟨e1,e2⟩:=Z7i x y hg htop hh
 have hg0:g≠0:=by rw [hg];exact Nat.ne_of_gt (Nat.gcd_pos_of_pos_left _ x.den_pos)
 have hh0:h≠0:=by rw [hh];exact Nat.ne_of_gt (Nat.gcd_pos_of_pos_right _ (Nat.pos_of_ne_zero hg0))
 obtain ⟨e3,e4⟩:=Zil hh0 (show h ∣ top.natAbs by rw [hh];exact Nat.gcd_dvd_left _ _)
 rw [← e1] at e3 e4
 have lg:(mag g).length≤2000000:=Nat.le_trans (Zaj (by rw [hg];exact Nat.gcd_le_left _ x.den_pos)) hx2
 have lh:(mag h).length≤2000000:=Nat.le_trans (Zaj (by rw [hh];exact Nat.gcd_le_right _ (Nat.pos_of_ne_zero hg0))) lg
 have ll:(mag (y.den / g)).length≤2000000:=Nat.le_trans (Zaj (Nat.div_le_self _ _)) hy2
 have lr:(mag (x.den / g)).length≤2000000:=Nat.le_trans (Zaj (Nat.div_le_self _ _)) hx2
 have lrs:(mag (y.den / h)).length≤2000000:=Nat.le_trans (Zaj (Nat.div_le_self _ _)) hy2
 have m1:(mag (x.num * ((y.den / g:Nat):Int)).natAbs).length≤4000000:=by
  rw [Int.natAbs_mul,Int.natAbs_natCast]
  have:=Zav x.num.natAbs (y.den / g)
  omega
 have m2:(mag (y.num * ((x.den / g:Nat):Int)).natAbs).length≤4000000:=by
  rw [Int.natAbs_mul,Int.natAbs_natCast]
  have:=Zav y.num.natAbs (x.den / g)
  omega
 have mt:(mag top.natAbs).length≤4000001:=by
  rw [htop]
  refine Nat.le_trans (Zaj (Int.natAbs_add_le _ _)) (Nat.le_trans (Zfo _ _) ?_)
  omega
 unfold RatR
 refine Zab Tryz.func115 rfl Tryz.ntmps115 rfl ?_
 repeat' first|refine Kz ?_|intro _
 rename_i b2 b3 b4
 refine TL.call rfl rfl rfl (Zjw (a:=x.den) (b:=y.den) (by omega) (by omega)) ?_
 rintro _ _ ⟨pg,cg,rfl,rfl⟩
 rw [← hg]
 repeat' first|refine Kz ?_|intro _
 refine TL.call rfl rfl rfl (Zbz (a:=y.den) (b:=g) hg0 (by omega) (by omega)) ?_
 rintro _ _ ⟨pl,cl,pl',cl',rfl,rfl⟩
 repeat' first|refine Kz ?_|intro _
 refine TL.call rfl rfl rfl (Zbz (a:=x.den) (b:=g) hg0 (by omega) (by omega)) ?_
 rintro _ _ ⟨pr,cr,pr',cr',rfl,rfl⟩
 repeat' first|refine Kz ?_|intro _
 refine Tri.mid (fun e' As'=>∃ pt ct b10,e'=[(3,.pointer (some ⟨b3,0,none⟩)),(4,.pointer (some ⟨b4,0,none⟩)),(5,.slice pg (mag g).length cg),(8,.slice pr (mag (x.den / g)).length cr),(10,.pointer (some ⟨b10,0,none⟩))] ∧
  As'=.cl b10 [.slice pt (mag top.natAbs).length ct,.bool (decide (top < 0))] 190::.ft (rd (cN .u32) (.slice pt (mag top.natAbs).length ct) (mag top.natAbs))::.ft (rd (cN .u32) (.slice pr (mag (x.den / g)).length cr) (mag (x.den / g)))::.ft (rd (cN .u32) (.slice pg (mag g).length cg) (mag g)) ::
   .cl b4 [.slice none 0 0,.bool false,.slice none 0 0] 192::.cl b3 [.slice p3 (mag y.num.natAbs).length c3,.bool (decide (y.num < 0)),.slice p4 (mag y.den).length c4] 192::As) ?_ ?_
 ·refine Zai (.take 0 (.take 1 (.take 2 (.take 4 (.take 5 (.take 6 (.all [(3,.all [(7,.all [(8,.all [(9,.all [(10,.done)])]),(9,.all [(8,.all [(10,.done)])])]),(9,.all [(7,.all [(8,.all [(10,.done)])])])]),(9,.all [(3,.all [(7,.all [(8,.all [(10,.done)])])])])]))))))) ?_
  repeat' first|refine Kf ?_|intro _|constructor
  iterate 3
   all_goals
    first
     | (refine T1.callv rfl rfl rfl rfl rfl (Zf9 (v:=.slice p1 (mag x.num.natAbs).length c1) (o:=.slice pl (mag (y.den / g)).length cl) (x:=x.num) (m:=y.den / g) (by omega) (by omega)) ?_
        rintro _ _ ⟨qa,ka,rfl,rfl⟩)
     | (refine T1.callv rfl rfl rfl rfl rfl (Zf9 (v:=.slice p3 (mag y.num.natAbs).length c3) (o:=.slice pr (mag (x.den / g)).length cr) (x:=y.num) (m:=x.den / g) (by omega) (by omega)) ?_
        rintro _ _ ⟨qb,kb,rfl,rfl⟩)
     | (refine T1.callv rfl rfl rfl rfl rfl (Zm7 (x:=x.num * ((y.den / g:Nat):Int)) (y:=y.num * ((x.den / g:Nat):Int)) (by omega) (by omega)) ?_
        rw [← htop]
        rintro _ _ ⟨qc,kc,rfl,rfl⟩)
    repeat' first|refine Kf ?_|intro _|constructor
  all_goals exact Post.cut _ _ ⟨qc,kc,_,rfl,rfl⟩ Zad Zaa
 rintro _ _ ⟨pt,ct,b10,rfl,rfl⟩
 repeat' first|refine Kz ?_|intro _
 refine TL.call rfl rfl rfl (Zjw (a:=top.natAbs) (b:=g) (by omega) (by omega)) ?_
 rintro _ _ ⟨ph,ch,rfl,rfl⟩
 rw [← hh]
 repeat' first|refine Kz ?_|intro _
 refine TL.call rfl rfl rfl (Zbz (a:=top.natAbs) (b:=h) hh0 (by omega) (by omega)) ?_
 rintro _ _ ⟨pn,cn,pn',cn',rfl,rfl⟩
 repeat' first|refine Kz ?_|intro _
 refine TL.call rfl rfl rfl (Zbz (a:=y.den) (b:=h) hh0 (by omega) (by omega)) ?_
 rintro _ _ ⟨ps,cs,ps',cs',rfl,rfl⟩
 repeat' first|refine Kz ?_|intro _
 refine Ks rfl (Zbw (v:=.slice pn (mag (top.natAbs / h)).length cn) (n:=top.natAbs / h)) ?_
 repeat' first|refine Kz ?_|intro _
 refine TL.callv rfl rfl rfl rfl (Zcr (v:=.slice pr (mag (x.den / g)).length cr) (o:=.slice ps (mag (y.den / h)).length cs) (a:=x.den / g) (b:=y.den / h) (by omega) (by omega)) ?_
 rintro _ _ ⟨pd,cd,rfl,rfl⟩
 repeat' first|refine Kz ?_|intro _
 (refine Zac ?_)
 refine ⟨_,⟨pn,cn,pd,cd,?_,rfl⟩,?_⟩
 ·rw [e3,e4,e2]
 ·rw [e3,e2]<;>(exact Zaa)
theorem Z4b [hm:RdIn As mv Nat (cN .u32) (mag x.num.natAbs)] [hb:RdIn As bv Nat (cN .u32) (mag x.den)] [hn:RdIn As nv Nat (cN .u32) (mag y.num.natAbs)] [hc:RdIn As cv Nat (cN .u32) (mag y.den)] (hx:Ln 40000000 x) (hy:Ln 40000000 y) :
  CQ Tryz.prog w0 124 [.agg #[mv,.bool (decide (x.num < 0)),bv],.agg #[nv,.bool (decide (y.num < 0)),cv]] As (.int .i64 (ordQ x y)):=by
 refine Zae mv fun p1 c1 h1=>Zae bv fun p2 c2 h2=>Zae nv fun p3 c3 h3=>Zae cv fun p4 c4 h4=>?_
 subst h1 h2 h3 h4
 obtain ⟨hx1,hx2⟩:=hx
 obtain ⟨hy1,hy2⟩:=hy
 have m1:(mag (x.num * (y.den:Int)).natAbs).length≤80000000:=by
  rw [Int.natAbs_mul,Int.natAbs_natCast]
  have:=Zav x.num.natAbs y.den
  omega
 have m2:(mag (-(y.num * (x.den:Int))).natAbs).length≤80000000:=by
  rw [Int.natAbs_neg,Int.natAbs_mul,Int.natAbs_natCast]
  have:=Zav y.num.natAbs x.den
  omega
 have e2:mag (y.num * (x.den:Int)).natAbs=mag (-(y.num * (x.den:Int))).natAbs:=by rw [Int.natAbs_neg]
 refine Zab Tryz.func124 rfl Tryz.ntmps124 rfl ?_
 repeat' first|refine Kz ?_|intro _
 refine Zai (.take 0 (.take 1 (.take 2 (.take 3 (.take 5 (.take 6 (.take 7 (.take 8 (.all [(4,.all [(9,.all [(10,.all [(11,.all [(12,.take 13 (.done))])])])])]))))))))) ?_
 repeat' first|refine Kf ?_|intro _|constructor
 iterate 2
  all_goals
   first
    | (refine T1.callv rfl rfl rfl rfl rfl (Zf9 (v:=.slice p1 (mag x.num.natAbs).length c1) (o:=.slice p4 (mag y.den).length c4) (x:=x.num) (m:=y.den) (by omega) (by omega)) ?_
       rintro _ _ ⟨qa,ka,rfl,rfl⟩)
    | (refine T1.callv rfl rfl rfl rfl rfl (Zf9 (v:=.slice p3 (mag y.num.natAbs).length c3) (o:=.slice p2 (mag x.den).length c2) (x:=y.num) (m:=x.den) (by omega) (by omega)) ?_
       rintro _ _ ⟨qb,kb,rfl,rfl⟩)
   repeat' first|refine Kf ?_|intro _|constructor
 refine Ku rfl (Zfm (v:=.slice qb (mag (y.num * (x.den:Int)).natAbs).length kb) (x:=y.num * (x.den:Int))) ?_
 repeat' first|refine Kf ?_|intro _|constructor
 rw [e2]
 refine T1.callv rfl rfl rfl rfl rfl (Zm7 (v:=.slice qa (mag (x.num * (y.den:Int)).natAbs).length ka) (o:=.slice qb (mag (-(y.num * (x.den:Int))).natAbs).length kb) (x:=x.num * (y.den:Int)) (y:=-(y.num * (x.den:Int))) (by omega) (by omega)) ?_
 rintro _ _ ⟨qc,kc,rfl,rfl⟩
 repeat' first|refine Kf ?_|intro _|constructor
 refine Ku rfl (Zzh (v:=.slice qc (mag (x.num * (y.den:Int)+-(y.num * (x.den:Int))).natAbs).length kc) (x:=x.num * (y.den:Int)+-(y.num * (x.den:Int)))) ?_
 repeat' first|refine Kf ?_|intro _|constructor
 (refine Zac ?_)
 exact ⟨_,⟨by rw [ordQ,Int.sub_eq_add_neg],rfl⟩,Zaa⟩
def minQ (x y:Rat):Rat:=if y < x then y else x
def maxQ (x y:Rat):Rat:=if x < y then y else x
theorem Zdy (ht:Tab w0) [hm:RdIn As mv Nat (cN .u32) (mag x.num.natAbs)] [hb:RdIn As bv Nat (cN .u32) (mag x.den)] (hx:Ln 1000000 x) :
  CQ Tryz.prog w0 122 [.agg #[mv,.bool (decide (x.num < 0)),bv]] As (.tuple #[.agg #[.string ⟨(outF x).1.toArray⟩,.string ⟨(outF x).2.1.toArray⟩],.int .i64 (outF x).2.2]):=by
 refine Zae mv fun p1 c1 h1=>Zae bv fun p2 c2 h2=>?_
 subst h1 h2
 obtain ⟨hx1,hx2⟩:=hx
 have big:∀ {n:Nat},Lib.nDigits n≤600→(mag n).length≤1000:=fun {n} h=>by
  by_cases h0:n=0
  ·rw [h0,Za0];simp
  ·have h3:(mag n).length≠0:=fun h=>h0 (Zvp.1 h)
   obtain ⟨d,hd⟩:∃ d,(mag n)[(mag n).length - 1]?=some d:=⟨_,List.getElem?_eq_getElem (by omega)⟩
   have:=Zck _ (Zb5 hd).2.1
   omega
 have o1:(outW x.num).2=0↔Lib.nDigits x.num.natAbs≤600:=by
  unfold outW;split<;>simp<;>omega
 have o2:(outW (x.den:Int)).2=0↔Lib.nDigits x.den≤600:=by
  unfold outW;rw [Int.natAbs_natCast];split<;>simp<;>omega
 have hout:outF x=if Lib.nDigits x.num.natAbs≤600∧Lib.nDigits x.den≤600 then (textI x.num,textI (x.den:Int),0) else ([],[],6):=by
  unfold outF;simp only [o1,o2]
 have etd:textI (x.den:Int)=Lib.decDigits x.den:=by
  have:¬ ((x.den:Int) < 0):=by omega
  simp only [textI,Lib.itoa,if_neg this,Int.toNat_natCast]
 rw [hout]
 refine Zab Tryz.func122 rfl Tryz.ntmps122 rfl ?_
 repeat' first|refine Kz ?_|intro _
 rename_i b1 b2
 refine Kt rfl (Zif ht (n:=x.num.natAbs) (by omega)) ?_
 by_cases h1:Lib.nDigits x.num.natAbs≤600
 ·repeat' first|refine Kz ?_|intro _
  refine Kt rfl (Zif ht (n:=x.den) (by omega)) ?_
  by_cases h2:Lib.nDigits x.den≤600
  ·rw [if_pos ⟨h1,h2⟩]
   repeat' first|refine Kz ?_|intro _
   refine Zaf (.cl b1 [.slice p1 (mag x.num.natAbs).length c1,.bool (decide (x.num < 0)),.slice p2 (mag x.den).length c2] 192::As) [] (.take 0 (.take 1 (.take 3 (.take 4 (.all [(2,.all [(5,.take 6 (.all [(7,.take 8 (.done))]))])]))))) ?_
   repeat' first|refine Kf ?_|intro _|constructor
   iterate 2
    all_goals
     first
      | (refine T1.callv rfl rfl rfl rfl rfl (Zy8 ht (v:=.slice p1 (mag x.num.natAbs).length c1) (z:=x.num) (big h1)) ?_
         rintro _ _ ⟨rfl,rfl⟩)
      | (refine T1.callv rfl rfl rfl rfl rfl (Zfb ht (v:=.slice p2 (mag x.den).length c2) (n:=x.den) (big h2)) ?_
         rintro _ _ ⟨rfl,rfl⟩)
     repeat' first|refine Kf ?_|intro _|constructor
   all_goals
    (refine Zac ?_)
    exact ⟨_,⟨by rw [etd],rfl⟩,Zaa⟩
  ·rw [if_neg (fun h=>h2 h.2)]
   repeat' first|refine Kz ?_|intro _
   exact Kv
 ·rw [if_neg (fun h=>h1 h.1)]
  repeat' first|refine Kz ?_|intro _
  exact Kv
end
end Go.Proofs.YtbfgldlfciimiaaGreatDoor.Q
