/- Plain laws: fractions as core's Rat. -/
import Derived.Test.YtbfgldlfciimiaaGreatDoorPl
import Derived.Test.YtbfgldlfciimiaaGreatDoorWb1
import Derived.Test.YtbfgldlfciimiaaGreatDoorVb1
set_option maxHeartbeats 1000000
namespace Go.Sx
open Go
theorem Zo0 {num:Int} {den g:Nat} (h1 h2 h3 h4):(Rat.maybeNormalize num den g h1 h2 h3 h4).num=num / (g:Int)∧(Rat.maybeNormalize num den g h1 h2 h3 h4).den=den / g:=by
 rw [Rat.maybeNormalize]
 split
 ·rename_i h;subst h
  exact ⟨(Int.ediv_one _).symm,(Nat.div_one _).symm⟩
 ·exact ⟨Int.divExact_eq_ediv h1,rfl⟩
theorem Yad (a b:Rat) {g:Nat} (hg:g=Nat.gcd a.den b.den) {top:Int} (ht:top=a.num * ((b.den / g:Nat):Int)+b.num * ((a.den / g:Nat):Int)) {h:Nat} (hh:h=Nat.gcd top.natAbs g) :
  (a+b).num=top / (h:Int)∧(a+b).den=a.den / g * (b.den / h):=by
 show (Rat.add a b).num=_∧(Rat.add a b).den=_
 rw [Rat.add]
 subst hg
 split
 ·rename_i h1
  rw [h1,Nat.gcd_one_right] at hh
  subst hh
  rw [h1,Nat.div_one,Nat.div_one] at ht
  simp only [h1,Nat.div_one]
  exact ⟨by rw [ht];exact (Int.ediv_one _).symm,trivial⟩
 ·dsimp only
  rw [(Zo0 _ _ _ _).1,(Zo0 _ _ _ _).2,hh,ht]
  refine ⟨rfl,Nat.mul_div_assoc _ (Nat.dvd_trans (Nat.gcd_dvd_right _ _) (Nat.gcd_dvd_right _ _))⟩
theorem Yac (a b:Rat):(a * b).num=a.num / (Nat.gcd a.num.natAbs b.den:Nat) * (b.num / (Nat.gcd b.num.natAbs a.den:Nat))∧(a * b).den=a.den / Nat.gcd b.num.natAbs a.den * (b.den / Nat.gcd a.num.natAbs b.den):=by
 show (Rat.mul a b).num=_∧(Rat.mul a b).den=_
 rw [Rat.mul]
 simp only [Int.divExact_eq_ediv,Nat.divExact_eq_div,and_self]
theorem Zu4 (a:Rat) (h:a≠0):(a⁻¹).num=(if a.num < 0 then -(a.den:Int) else (a.den:Int))∧(a⁻¹).den=a.num.natAbs:=by
 have h0:a.num≠0:=fun h1=>h (Rat.num_eq_zero.1 h1)
 show (Rat.inv a).num=_∧(Rat.inv a).den=_
 rw [Rat.inv]
 split
 ·rename_i h1
  exact ⟨rfl,rfl⟩
 ·split
  ·exact ⟨rfl,rfl⟩
  ·omega
theorem Zf6 {n:Int} {d:Nat} (hd:d≠0):(mkRat n d).num=n / (Nat.gcd n.natAbs d:Nat)∧(mkRat n d).den=d / Nat.gcd n.natAbs d:=by
 rw [← Rat.normalize_eq_mkRat hd,Rat.normalize_eq]
 exact ⟨rfl,rfl⟩
def readF (n d:List UInt8):Option Rat:=match readW n,readW d with
 | some x,some y=>if h:0 < y∧Nat.gcd x.natAbs y.natAbs=1 then some ⟨x,y.natAbs,by omega,h.2⟩ else none
 | _,_=>none
def outF (r:Rat):List UInt8 × List UInt8 × Int:=if (outW r.num).2=0∧(outW r.den).2=0 then (textI r.num,textI r.den,0) else ([],[],6)
theorem Zsp {n d:List UInt8} {r:Rat} (h:readF n d=some r):readW n=some r.num∧readW d=some (r.den:Int):=by
 unfold readF at h
 split at h
 ·rename_i x y h1 h2
  split at h
  ·rename_i h3
   rw [Option.some.injEq] at h
   subst h
   refine ⟨h1,?_⟩
   rw [h2]
   simp only [Option.some.injEq]
   omega
  ·cases h
 ·cases h
theorem Zzl {r:Rat} (h1:readW (textI r.num)=some r.num) (h2:readW (textI (r.den:Int))=some (r.den:Int)):readF (textI r.num) (textI (r.den:Int))=some r:=by
 have hd:=r.den_nz
 unfold readF
 rw [h1,h2]
 dsimp only
 rw [dif_pos ⟨by omega,by rw [Int.natAbs_natCast];exact r.reduced⟩]
 rfl
theorem Zp7 (a b:Rat):(a.num * (b.den:Int) < b.num * (a.den:Int)↔a < b)∧(a.num * (b.den:Int)=b.num * (a.den:Int)↔a=b):=by
 refine ⟨(Rat.lt_iff a b).symm,fun h=>?_,fun h=>by rw [h]⟩
 have h1:a≤b:=(Rat.le_iff a b).2 (by omega)
 have h2:b≤a:=(Rat.le_iff b a).2 (by omega)
 exact Rat.le_antisymm h1 h2
theorem Zvy {n:Int} {d:Nat} (hd:d≠0):(mkRat n d).floor=n / (d:Int):=by
 obtain ⟨e1,e2⟩:=Zf6 (n:=n) hd
 have hg:0 < Nat.gcd n.natAbs d:=Nat.gcd_pos_of_pos_right _ (by omega)
 rw [Rat.floor_def,e1,e2]
 have hd1:Nat.gcd n.natAbs d ∣ d:=Nat.gcd_dvd_right _ _
 have hn1:(Nat.gcd n.natAbs d:Int) ∣ n:=Int.ofNat_dvd_left.2 (Nat.gcd_dvd_left _ _)
 generalize Nat.gcd n.natAbs d=g at *
 obtain ⟨n',rfl⟩:=hn1
 obtain ⟨d',rfl⟩:=hd1
 rw [Int.mul_ediv_cancel_left _ (by omega),Nat.mul_div_cancel_left _ hg,Int.natCast_mul,Int.mul_ediv_mul_of_pos _ _ (by omega)]
theorem Z6k (r:Rat) {k:Nat}:(r.num * ((k * 2:Nat):Int)+(r.den:Int)) / ((r.den * 2:Nat):Int)=(r * (k:Rat)+mkRat 1 2).floor:=by
 have hd:=r.den_nz
 rw [← Zvy (by omega)]
 congr 1
 have e1:r=mkRat r.num r.den:=(Rat.mkRat_self r).symm
 have e2:(k:Rat)=mkRat (k:Int) 1:=by rw [Rat.mkRat_one];rfl
 conv=>rhs;rw [e1,e2]
 rw [Rat.mkRat_mul_mkRat,Rat.mkRat_add_mkRat _ _ (by omega) (by omega)]
 congr 1
 ·simp only [Int.natCast_mul,Nat.mul_one,Int.one_mul,Int.mul_assoc]
 ·simp only [Nat.mul_one]
end Go.Sx
namespace Go.Sx
open Go
def Fit (k:Nat) (r:Rat):Prop:=Lib.nDigits r.num.natAbs≤k∧Lib.nDigits r.den≤k
theorem Zbd {k n:Nat} (h:Lib.nDigits n≤k):n < 10 ^ k:=Nat.lt_of_lt_of_le (Zn4 n) (Nat.pow_le_pow_right (by omega) h)
theorem Fit.mono {k l:Nat} {r:Rat} (h:Fit k r) (hk:k≤l):Fit l r:=⟨Nat.le_trans h.1 hk,Nat.le_trans h.2 hk⟩
theorem Fit.pos {k:Nat} {r:Rat} (h:Fit k r):0 < k:=Nat.lt_of_lt_of_le (Zdn _) h.1
theorem Fit.of {k:Nat} {r:Rat} (hk:0 < k) (h1:r.num.natAbs < 10 ^ k) (h2:r.den < 10 ^ k):Fit k r:=⟨Zej hk h1,Zej hk h2⟩
theorem Fit.out {r:Rat} (h:Fit 600 r):outF r=(textI r.num,textI (r.den:Int),0):=by
 unfold outF
 rw [Zvb h.1,Zvb (z:=(r.den:Int)) (by rw [Int.natAbs_natCast];exact h.2)]
 exact if_pos ⟨rfl,rfl⟩
theorem Fit.read {r:Rat} (h:Fit 600 r):readF (textI r.num) (textI (r.den:Int))=some r :=
 Zzl (Zbs h.1) (Zbs (by rw [Int.natAbs_natCast];exact h.2))
theorem Zzn {a b c d i j:Nat} (ha:a < 10 ^ i) (hb:b < 10 ^ j) (hc:c < 10 ^ i) (hd:d < 10 ^ j):a * b+c * d < 10 ^ (i+j+1):=by
 have h1:a * b≤10 ^ i * 10 ^ j:=Nat.mul_le_mul (Nat.le_of_lt ha) (Nat.le_of_lt hb)
 have h2:c * d≤10 ^ i * 10 ^ j:=Nat.mul_le_mul (Nat.le_of_lt hc) (Nat.le_of_lt hd)
 have h3:0 < 10 ^ i * 10 ^ j:=Nat.mul_pos (Nat.pow_pos (by omega)) (Nat.pow_pos (by omega))
 rw [Nat.pow_succ,Nat.pow_add]
 omega
theorem Zj2 {a b i j:Nat} (ha:a < 10 ^ i) (hb:b < 10 ^ j):a * b < 10 ^ (i+j):=by
 rw [Nat.pow_add]
 exact Nat.mul_lt_mul_of_lt_of_le ha (Nat.le_of_lt hb) (Nat.pow_pos (by omega))
theorem Fit.add {a b:Nat} {r s:Rat} (hr:Fit a r) (hs:Fit b s):Fit (a+b+1) (r+s):=by
 have r1:=Zbd hr.1
 have r2:=Zbd hr.2
 have s1:=Zbd hs.1
 have s2:=Zbd hs.2
 refine Fit.of (by omega) ?_ ?_
 ·rw [Rat.num_add]
  refine Nat.lt_of_le_of_lt (Int.natAbs_ediv_le_natAbs _ _) ?_
  refine Nat.lt_of_le_of_lt (Int.natAbs_add_le _ _) ?_
  rw [Int.natAbs_mul,Int.natAbs_mul,Int.natAbs_natCast,Int.natAbs_natCast,Nat.mul_comm s.num.natAbs]
  exact Zzn r1 s2 r2 s1
 ·rw [Rat.den_add]
  refine Nat.lt_of_le_of_lt (Nat.div_le_self _ _) ?_
  exact Nat.lt_of_lt_of_le (Zj2 r2 s2) (Nat.pow_le_pow_right (by omega) (by omega))
theorem Fit.mul {a b:Nat} {r s:Rat} (hr:Fit a r) (hs:Fit b s):Fit (a+b) (r * s):=by
 have r1:=Zbd hr.1
 have r2:=Zbd hr.2
 have s1:=Zbd hs.1
 have s2:=Zbd hs.2
 have:=hr.pos
 refine Fit.of (by omega) ?_ ?_
 ·rw [Rat.num_mul]
  refine Nat.lt_of_le_of_lt (Int.natAbs_ediv_le_natAbs _ _) ?_
  rw [Int.natAbs_mul]
  exact Zj2 r1 s1
 ·rw [Rat.den_mul]
  exact Nat.lt_of_le_of_lt (Nat.div_le_self _ _) (Zj2 r2 s2)
theorem Fit.neg {a:Nat} {r:Rat} (hr:Fit a r):Fit a (-r):=⟨by rw [Rat.neg_num,Int.natAbs_neg];exact hr.1,hr.2⟩
theorem Fit.sub {a b:Nat} {r s:Rat} (hr:Fit a r) (hs:Fit b s):Fit (a+b+1) (r - s):=by
 rw [Rat.sub_eq_add_neg];exact hr.add hs.neg
theorem Fit.inv {a:Nat} {r:Rat} (hr:Fit a r):Fit a r⁻¹:=by
 by_cases h:r=0
 ·subst h
  rw [Rat.inv_zero];exact hr
 ·obtain ⟨h1,h2⟩:=Zu4 r h
  refine ⟨?_,by rw [h2];exact hr.1⟩
  rw [h1]
  have e:(if r.num < 0 then -(r.den:Int) else (r.den:Int)).natAbs=r.den:=by split<;>omega
  rw [e];exact hr.2
end Go.Sx
