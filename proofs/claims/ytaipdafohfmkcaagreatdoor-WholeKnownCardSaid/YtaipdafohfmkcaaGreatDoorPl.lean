/- Whole numbers, plain: groups of nine digits, decimal digits, texts. -/
import Derived.Test.YtaipdafohfmkcaaGreatDoorSxA
import Derived.Lib.ParseIntB
namespace Go.Sx
open Go
def valB:List Nat→Nat
 | []=>0
 | d::r=>d+1000000000 * valB r
def mag (n:Nat):List Nat:=if h:n=0 then [] else n % 1000000000::mag (n / 1000000000)
termination_by n
decreasing_by omega
theorem Zai:mag 0=[]:=by rw [mag,dif_pos rfl]
theorem Zb3 {n:Nat} (h:n≠0):mag n=n % 1000000000::mag (n / 1000000000):=by rw [mag,dif_neg h]
theorem Zja {p:Nat→Prop} (h0:p 0) (h1:∀ n,n≠0→p (n / 1000000000)→p n) (n:Nat):p n:=by
 induction n using Nat.strongRecOn with
 | _ n ih =>
  by_cases h:n=0
  ·subst h;exact h0
  ·exact h1 n h (ih _ (by omega))
theorem Za2 (n:Nat):valB (mag n)=n:=by
 induction n using Zja with
 | h0=>rw [Zai];rfl
 | h1 n h ih=>rw [Zb3 h,valB,ih];omega
theorem Zaz (n:Nat):∀ d∈mag n,d < 1000000000:=by
 induction n using Zja with
 | h0=>rw [Zai];intro d hd;cases hd
 | h1 n h ih =>
  rw [Zb3 h]
  intro d hd
  rcases List.mem_cons.1 hd with rfl|hd
  ·omega
  ·exact ih d hd
theorem Zqe {n:Nat}:mag n=[]↔n=0:=by
 constructor
 ·intro h
  have:=Za2 n
  rw [h] at this
  exact this.symm
 ·rintro rfl;exact Zai
theorem Zok {n:Nat}:(mag n).length=0↔n=0:=by rw [List.length_eq_zero_iff,Zqe]
def trimL:List Nat→List Nat
 | []=>[]
 | d::r=>match trimL r with
  | []=>if d=0 then [] else [d]
  | x::s=>d::x::s
theorem Zfh:∀ {xs:List Nat},(∀ d∈xs,d < 1000000000)→trimL xs=mag (valB xs)
 | [],_=>by rw [valB,Zai];rfl
 | d :: r,h=>by
  have ih:=Zfh (xs:=r) fun x hx=>h x (List.mem_cons_of_mem _ hx)
  have hd:=h d (List.mem_cons_self ..)
  rw [trimL,ih,valB]
  by_cases hv:valB r=0
  ·rw [hv,Zai]
   by_cases h0:d=0
   ·subst h0;rw [Zai];rfl
   ·simp only [if_neg h0,Nat.mul_zero,Nat.add_zero]
    rw [Zb3 h0,Nat.mod_eq_of_lt hd,Nat.div_eq_of_lt hd,Zai]
  ·have h1:mag (d+1000000000 * valB r)=d::mag (valB r):=by
    rw [Zb3 (by omega)]
    rw [show (d+1000000000 * valB r) % 1000000000=d by omega,show (d+1000000000 * valB r) / 1000000000=valB r by omega]
   rw [h1]
   cases hm:mag (valB r) with
   | nil=>exact absurd (Zqe.1 hm) hv
   | cons x s=>rfl
theorem Zgh:∀ {xs:List Nat},trimL (xs++[0])=trimL xs
 | []=>rfl
 | d::r=>by rw [List.cons_append,trimL,Zgh (xs:=r),trimL]
theorem Zc7 {y:Nat} (hy:y≠0):∀ {xs:List Nat},trimL (xs++[y])=xs++[y]
 | []=>by simp [trimL,hy]
 | d::r=>by
  rw [List.cons_append,trimL,Zc7 hy (xs:=r)]
  cases r<;>rfl
theorem Zbd:∀ {xs ys:List Nat},valB (xs++ys)=valB xs+1000000000 ^ xs.length * valB ys
 | [],ys=>by simp [valB]
 | d::r,ys=>by
  rw [List.cons_append,valB,Zbd (xs:=r),valB,List.length_cons,Nat.pow_succ,Nat.mul_add,Nat.mul_comm (1000000000 ^ r.length) 1000000000,Nat.mul_assoc]
  omega
theorem Zcr:∀ {xs:List Nat},(∀ d∈xs,d < 1000000000)→valB xs < 1000000000 ^ xs.length
 | [],_=>by simp [valB]
 | d::r,h=>by
  have ih:=Zcr (xs:=r) fun x hx=>h x (List.mem_cons_of_mem _ hx)
  have hd:=h d (List.mem_cons_self ..)
  rw [valB,List.length_cons,Nat.pow_succ]
  omega
theorem Zaq {xs:List Nat} {i d:Nat} (h:xs[i]?=some d):valB (xs.take (i+1))=valB (xs.take i)+1000000000 ^ i * d:=by
 have hi:=(List.getElem?_eq_some_iff.1 h).1
 rw [List.take_succ_eq_append_getElem hi,Zbd,(List.getElem?_eq_some_iff.1 h).2]
 simp only [List.length_take,Nat.min_eq_left (Nat.le_of_lt hi),valB,Nat.mul_zero,Nat.add_zero]
theorem Zkf (n:Nat):∀ i,(mag n).drop i=mag (n / 1000000000 ^ i)
 | 0=>by simp
 | i+1=>by
  have ih:=Zkf n i
  rw [← List.drop_drop,ih,Nat.pow_succ,← Nat.div_div_eq_div_mul]
  by_cases h:n / 1000000000 ^ i=0
  ·rw [h,Zai];simp
  ·rw [Zb3 h];rfl
theorem Zb4 {n i d:Nat} (h:(mag n)[i]?=some d):n / 1000000000 ^ i=d+1000000000 * (n / 1000000000 ^ (i+1))∧n / 1000000000 ^ i≠0∧d < 1000000000:=by
 have h1:(mag (n / 1000000000 ^ i))[0]?=some d:=by rw [← Zkf,List.getElem?_drop,Nat.add_zero,h]
 have h0:n / 1000000000 ^ i≠0:=fun h0=>by rw [h0,Zai] at h1;cases h1
 rw [Zb3 h0] at h1
 simp only [List.getElem?_cons_zero,Option.some.injEq] at h1
 have h2:n / 1000000000 ^ (i+1)=n / 1000000000 ^ i / 1000000000:=by rw [Nat.pow_succ,Nat.div_div_eq_div_mul]
 refine ⟨?_,h0,by omega⟩
 rw [h2];omega
theorem Zah (n:Nat):n < 1000000000 ^ (mag n).length:=by
 have:=Zcr (Zaz n)
 rwa [Za2] at this
theorem Zbf {n:Nat} (h:n≠0):1000000000 ^ ((mag n).length - 1)≤n:=by
 induction n using Zja with
 | h0=>exact absurd rfl h
 | h1 n h ih =>
  rw [Zb3 h,List.length_cons,Nat.add_sub_cancel]
  by_cases h1:n / 1000000000=0
  ·rw [h1,Zai];simp;omega
  ·have h2:=ih h1
   have h3:(mag (n / 1000000000)).length≠0:=fun h=>h1 (Zok.1 h)
   have e:(mag (n / 1000000000)).length=(mag (n / 1000000000)).length - 1+1:=by omega
   rw [e,Nat.pow_succ]
   omega
theorem Zao {a b:Nat} (h:a≤b):(mag a).length≤(mag b).length:=by
 by_cases ha:a=0
 ·subst ha;rw [Zai];exact Nat.zero_le _
 ·have h1:=Zbf ha
  have h2:=Zah b
  rcases Nat.lt_or_ge (mag b).length (mag a).length with h3|h3
  ·have h4:=Nat.pow_le_pow_right (n:=1000000000) (by omega) (show (mag b).length≤(mag a).length - 1 by omega)
   omega
  ·exact h3
theorem Zmp {l:List Nat} (h:∀ d∈l,d < 1000000000) (hp:l=[]∨1000000000 ^ (l.length - 1)≤valB l):l=mag (valB l):=by
 rw [← Zfh h]
 rcases hp with rfl|hp
 ·rfl
 rcases List.eq_nil_or_concat l with rfl|⟨xs,y,rfl⟩
 ·rfl
 ·by_cases hy:y=0
  ·subst hy
   rw [List.concat_eq_append] at hp h
   have h1:=Zcr (xs:=xs) fun d hd=>h d (List.mem_append_left _ hd)
   rw [Zbd] at hp
   simp only [valB,Nat.mul_zero,Nat.add_zero,List.length_append,List.length_cons,List.length_nil,Nat.add_sub_cancel] at hp
   omega
  ·rw [List.concat_eq_append,Zc7 hy]

/-! decimal digits -/
def dig (c:UInt8):Nat:=c.toNat - 48
def isDig (c:UInt8):Bool:=decide (48≤c.toNat)&&decide (c.toNat≤57)
theorem Zfp {c:UInt8}:isDig c=true↔48≤c.toNat∧c.toNat≤57:=by simp [isDig]
def numOf (l:List UInt8):Nat:=l.foldl (fun n c=>n * 10+dig c) 0
theorem Zca {l:List UInt8} {c:UInt8}:numOf (l++[c])=numOf l * 10+dig c:=by simp [numOf]
theorem Zfq:∀ (b:List UInt8) (n:Nat),b.foldl (fun n c=>n * 10+dig c) n=n * 10 ^ b.length+numOf b
 | [],n=>by simp [numOf]
 | c::b,n=>by
  have h1:=Zfq b (n * 10+dig c)
  have h2:=Zfq b (0 * 10+dig c)
  have h3:numOf (c::b)=b.foldl (fun n c=>n * 10+dig c) (0 * 10+dig c):=rfl
  rw [List.foldl_cons,h1,h3,h2,List.length_cons,Nat.pow_succ,Nat.add_mul,Nat.mul_assoc,Nat.mul_comm 10 (10 ^ b.length)]
  simp only [Nat.zero_mul,Nat.zero_add]
  omega
theorem Za1 {a b:List UInt8}:numOf (a++b)=numOf a * 10 ^ b.length+numOf b:=by
 rw [numOf,List.foldl_append,Zfq];rfl
theorem Zmz {c:UInt8} (h:isDig c=true):dig c < 10:=by
 rw [Zfp] at h;unfold dig;omega
theorem Zb1:∀ {l:List UInt8},(∀ c∈l,isDig c=true)→numOf l < 10 ^ l.length:=by
 intro l
 induction l with
 | nil=>intro _;simp [numOf]
 | cons c l ih =>
  intro h
  have h1:=ih fun x hx=>h x (List.mem_cons_of_mem _ hx)
  have h2:=Zmz (h c (List.mem_cons_self ..))
  have h3:=Za1 (a:=[c]) (b:=l)
  have h4:numOf [c]=dig c:=by simp [numOf]
  rw [List.singleton_append,h4] at h3
  rw [h3,List.length_cons,Nat.pow_succ]
  have h5:=Nat.mul_le_mul_right (10 ^ l.length) (show dig c≤9 by omega)
  omega
def grp (l:List UInt8):List Nat:=if h:l.length≤9 then [numOf l] else numOf (l.drop (l.length - 9))::grp (l.take (l.length - 9))
termination_by l.length
decreasing_by simp;omega
theorem Zmq {l:List UInt8} (h:l.length≤9):grp l=[numOf l]:=by rw [grp,dif_pos h]
theorem Zpi {l:List UInt8} (h:¬ l.length≤9):grp l=numOf (l.drop (l.length - 9))::grp (l.take (l.length - 9)):=by rw [grp,dif_neg h]
theorem Zoo (k:Nat):∀ {l:List UInt8},l.length≤k→(∀ c∈l,isDig c=true)→valB (grp l)=numOf l∧∀ d∈grp l,d < 1000000000:=by
 induction k with
 | zero =>
  intro l hl _
  have:l=[]:=List.length_eq_zero_iff.1 (by omega)
  subst this
  rw [Zmq (by simp)]
  simp [valB,numOf]
 | succ k ih =>
  intro l hl hd
  by_cases h:l.length≤9
  ·rw [Zmq h]
   have h1:=Zb1 hd
   have h2:=Nat.pow_le_pow_right (n:=10) (by omega) h
   refine ⟨by simp [valB],fun d hm=>?_⟩
   rw [List.mem_singleton.1 hm]
   omega
  ·rw [Zpi h]
   obtain ⟨h1,h2⟩:=ih (l:=l.take (l.length - 9)) (by simp;omega) fun c hc=>hd c (List.mem_of_mem_take hc)
   have hld:(l.drop (l.length - 9)).length=9:=by simp;omega
   have h3:=Zb1 (l:=l.drop (l.length - 9)) fun c hc=>hd c (List.mem_of_mem_drop hc)
   rw [hld] at h3
   refine ⟨?_,fun d hm=>?_⟩
   ·have h4:=Za1 (a:=l.take (l.length - 9)) (b:=l.drop (l.length - 9))
    rw [List.take_append_drop,hld] at h4
    rw [valB,h1,h4]
    omega
   ·rcases List.mem_cons.1 hm with rfl|hm
    ·omega
    ·exact h2 d hm
theorem Zez {k:Nat} (h:k < 10):dig (UInt8.ofNat (48+k))=k∧isDig (UInt8.ofNat (48+k))=true∧(UInt8.ofNat (48+k)).toNat=48+k:=by
 have:(UInt8.ofNat (48+k)).toNat=48+k:=by simp;omega
 refine ⟨by rw [dig,this];omega,by rw [Zfp,this];omega,this⟩
theorem Zba {n:Nat} (h:n < 10):Lib.decDigits n=[UInt8.ofNat (48+n)]:=Lib.decDigits_one h
theorem Zer {n:Nat} (h:¬ n < 10):Lib.decDigits n=Lib.decDigits (n / 10)++[UInt8.ofNat (48+n % 10)]:=by rw [Lib.decDigits,dif_neg h]
theorem Zjd {p:Nat→Prop} (h0:∀ n,n < 10→p n) (h1:∀ n,¬ n < 10→p (n / 10)→p n) (n:Nat):p n:=by
 induction n using Nat.strongRecOn with
 | _ n ih =>
  by_cases h:n < 10
  ·exact h0 n h
  ·exact h1 n h (ih _ (by omega))
theorem Zfm (n:Nat):numOf (Lib.decDigits n)=n:=by
 induction n using Zjd with
 | h0 n h=>rw [Zba h];show 0 * 10+dig _=n;rw [(Zez h).1];omega
 | h1 n h ih=>rw [Zer h,Zca,ih,(Zez (show n % 10 < 10 by omega)).1];omega
theorem Zje (n:Nat):∀ c∈Lib.decDigits n,isDig c=true:=by
 induction n using Zjd with
 | h0 n h =>
  rw [Zba h]
  intro c hc
  rw [List.mem_singleton.1 hc];exact (Zez h).2.1
 | h1 n h ih =>
  rw [Zer h]
  intro c hc
  rcases List.mem_append.1 hc with hc|hc
  ·exact ih c hc
  ·rw [List.mem_singleton.1 hc];exact (Zez (show n % 10 < 10 by omega)).2.1
theorem Zb5 (n:Nat):(Lib.decDigits n).length=Lib.nDigits n:=Lib.decDigits_length n
theorem Zdr (n:Nat):0 < Lib.nDigits n:=by
 by_cases h:n < 10
 ·rw [Lib.nDigits_small h];decide
 ·rw [Lib.nDigits_big h];omega
def pad:Nat→Nat→List UInt8
 | 0,_=>[]
 | k+1,r=>pad k (r / 10)++[UInt8.ofNat (48+r % 10)]
theorem Zkb:∀ k,pad k 0=List.replicate k 48
 | 0=>rfl
 | k+1=>by rw [pad,Zkb k,List.replicate_succ'];rfl
theorem Zml:∀ {k r:Nat},Lib.nDigits r≤k→pad k r=List.replicate (k - Lib.nDigits r) 48++Lib.decDigits r
 | 0,r,h=>by have:=Zdr r;omega
 | k + 1,r,h=>by
  rw [pad]
  by_cases h1:r < 10
  ·rw [Lib.nDigits_small h1,Zba h1,show r / 10=0 by omega,Zkb,show r % 10=r by omega];rfl
  ·rw [Lib.nDigits_big h1] at h ⊢
   rw [Zml (by omega),Zer h1,List.append_assoc,show k+1 - (Lib.nDigits (r / 10)+1)=k - Lib.nDigits (r / 10) by omega]
theorem Zia {q:Nat} (hq:0 < q):∀ {k r:Nat},r < 10 ^ k→Lib.decDigits (q * 10 ^ k+r)=Lib.decDigits q++pad k r
 | 0,r,h=>by
  have:r=0:=by simpa using h
  subst this;simp [pad]
 | k + 1,r,h=>by
  have hp:0 < 10 ^ k:=Nat.pow_pos (by omega)
  have hqk:=Nat.mul_pos hq hp
  rw [Nat.pow_succ] at h
  have e1:q * 10 ^ (k+1)=q * 10 ^ k * 10:=by rw [Nat.pow_succ,Nat.mul_assoc]
  have e2:(q * 10 ^ (k+1)+r) / 10=q * 10 ^ k+r / 10:=by rw [e1];omega
  have e3:(q * 10 ^ (k+1)+r) % 10=r % 10:=by rw [e1];omega
  have h2:¬ q * 10 ^ (k+1)+r < 10:=by
   rw [e1]
   omega
  rw [Zer h2,e2,e3,Zia hq (by omega),pad,List.append_assoc]
theorem Za9 {k:Nat}:∀ {r:Nat},r < 10 ^ (k+1)→Lib.nDigits r≤k+1:=by
 induction k with
 | zero=>intro r h;rw [Lib.nDigits_small (by simpa using h)];exact Nat.le_refl _
 | succ k ih =>
  intro r h
  by_cases h1:r < 10
  ·rw [Lib.nDigits_small h1];omega
  ·rw [Lib.nDigits_big h1]
   rw [Nat.pow_succ] at h
   have:=ih (r:=r / 10) (by omega)
   omega
theorem Zib {q d:Nat} (hq:q≠0) (hd:d < 1000000000):Lib.decDigits (d+1000000000 * q)=Lib.decDigits q++(List.replicate (9 - Lib.nDigits d) 48++Lib.decDigits d):=by
 have h:=Zia (q:=q) (by omega) (k:=9) (r:=d) (by simpa using hd)
 rw [show q * 10 ^ 9+d=d+1000000000 * q by omega] at h
 rw [h,Zml (Za9 (k:=8) (by simpa using hd))]
theorem Zha {q d:Nat} (hq:q≠0) (hd:d < 1000000000):Lib.nDigits (d+1000000000 * q)=Lib.nDigits q+9:=by
 have h:=congrArg List.length (Zib hq hd)
 have h1:=Za9 (k:=8) (r:=d) (by simpa using hd)
 simp only [List.length_append,List.length_replicate,Zb5] at h
 omega
theorem Zbw {n:Nat}:∀ i,n / 1000000000 ^ i≠0→Lib.nDigits n=9 * i+Lib.nDigits (n / 1000000000 ^ i)
 | 0,_=>by simp
 | i+1,h=>by
  have e:n / 1000000000 ^ (i+1)=n / 1000000000 ^ i / 1000000000:=by rw [Nat.pow_succ,Nat.div_div_eq_div_mul]
  rw [e] at h ⊢
  rw [Zbw i (by omega)]
  have:=Zha (q:=n / 1000000000 ^ i / 1000000000) (d:=n / 1000000000 ^ i % 1000000000) h (by omega)
  rw [show n / 1000000000 ^ i % 1000000000+1000000000 * (n / 1000000000 ^ i / 1000000000)=n / 1000000000 ^ i by omega] at this
  omega

/-! texts of whole numbers -/
def textI (z:Int):List UInt8:=Lib.itoa z
def readW (s:List UInt8):Option Int :=
 if Lib.hasPrefix s [45] then
  if 0 < (s.drop 1).length∧(s.drop 1).length≤600∧(∀ c∈s.drop 1,isDig c=true)∧(s.drop 1)[0]?≠some 48 then some (-(numOf (s.drop 1):Int)) else none
 else if 0 < s.length∧s.length≤600∧(∀ c∈s,isDig c=true)∧(s[0]?=some 48→s.length=1) then some (numOf s:Int) else none
theorem Zfb {s l:List UInt8} {neg:Bool} (hn:Lib.hasPrefix s [45]=neg) (hl:Lib.trimPrefix s [45]=l) :
  readW s=if 0 < l.length∧l.length≤600∧(∀ c∈l,isDig c=true)∧(l[0]?=some 48→neg=false∧l.length=1) then some (if neg then -(numOf l:Int) else (numOf l:Int)) else none:=by
 subst hn hl
 unfold readW Lib.trimPrefix
 cases Lib.hasPrefix s [45]<;>simp
theorem Zcw {l:List UInt8} (hd:∀ c∈l,isDig c=true) (h0:0 < l.length) (h:l[0]?≠some 48):0 < numOf l:=by
 cases l with
 | nil=>simp at h0
 | cons c l =>
  have h1:=Za1 (a:=[c]) (b:=l)
  rw [List.singleton_append] at h1
  have h2:=Zfp.1 (hd c (List.mem_cons_self ..))
  have h3:c.toNat≠48:=fun h3=>h (by
   have:c=48:=by apply UInt8.toNat_inj.1;rw [h3];rfl
   simp [this])
  have h4:numOf [c]=dig c:=by simp [numOf]
  have h5:1≤dig c:=by unfold dig;omega
  have h6:0 < 10 ^ l.length:=Nat.pow_pos (by omega)
  have h7:=Nat.mul_le_mul_right (10 ^ l.length) h5
  rw [h1,h4];omega
def outW (z:Int):List UInt8 × Int:=if 600 < Lib.nDigits z.natAbs then ([],6) else (textI z,0)
end Go.Sx
namespace Go.Sx
open Go
theorem Zh1 {X P c A B g c' d e:Nat} (h:X+P * c=A+B) (hd:g+1000000000 * c'=d+c+e):X+P * g+P * 1000000000 * c'=A+P * d+(B+P * e):=by
 have h1:P * (g+1000000000 * c')=P * (d+c+e):=by rw [hd]
 rw [Nat.mul_add,Nat.mul_add,Nat.mul_add,← Nat.mul_assoc] at h1
 omega
theorem Zla {X P c A B g c' d e:Nat} (h:X+B=A+P * c) (hd:g+c+e=d+1000000000 * c'):X+P * g+(B+P * e)=A+P * d+P * 1000000000 * c':=by
 have h1:P * (g+c+e)=P * (d+1000000000 * c'):=by rw [hd]
 rw [Nat.mul_add,Nat.mul_add,Nat.mul_add,← Nat.mul_assoc] at h1
 omega
theorem Zfg {xs:List Nat} {d:Nat}:valB (xs++[d])=valB xs+1000000000 ^ xs.length * d:=by
 rw [Zbd];simp [valB]
theorem Zal {xs:List Nat} {i:Nat} (h:xs.length≤i):valB (xs.take i)=valB xs:=by rw [List.take_of_length_le h]
theorem Zei {xs:List Nat} {d:Nat} (h:∀ x∈xs,x < 1000000000) (hd:d < 1000000000):∀ x∈xs++[d],x < 1000000000:=fun x hx=>by
 rcases List.mem_append.1 hx with hx|hx
 ·exact h x hx
 ·rw [List.mem_singleton.1 hx];exact hd
theorem Zat {xs:List Nat} {i d:Nat} (h:∀ x∈xs,x < 1000000000) (hd:d < 1000000000):∀ x∈xs.set i d,x < 1000000000:=fun x hx=>by
 rcases List.mem_or_eq_of_mem_set hx with hx|rfl
 ·exact h x hx
 ·exact hd
theorem Zn8 {a b:Nat} {xs:List Nat} (hs:∀ x∈xs,x < 1000000000) (hl:xs.length=(mag a).length) (hv:valB xs=a+b) (hb:(mag b).length≤(mag a).length):xs=mag (a+b):=by
 rw [← hv]
 refine Zmp hs ?_
 by_cases h0:a=0
 ·subst h0
  rw [Zai] at hl
  exact .inl (List.length_eq_zero_iff.1 hl)
 ·have:=Zbf h0
  right
  rw [hl,hv];omega
theorem Zn7 {a b:Nat} {xs:List Nat} (hs:∀ x∈xs,x < 1000000000) (_hl:xs.length=(mag a).length) (hv:valB xs+1000000000 ^ xs.length=a+b):xs++[1]=mag (a+b):=by
 have h1:valB (xs++[1])=a+b:=by rw [Zfg,Nat.mul_one];exact hv
 rw [← h1]
 refine Zmp (Zei hs (by decide)) (.inr ?_)
 rw [h1,List.length_append,List.length_singleton,Nat.add_sub_cancel,← hv]
 omega
theorem Zm0 {a b:Nat} (h:(mag a).length < (mag b).length):a < b:=by
 have h1:=Zah a
 have hb:b≠0:=fun h0=>by subst h0;rw [Zai] at h;simp at h
 have h2:=Zbf hb
 have h3:=Nat.pow_le_pow_right (n:=1000000000) (by omega) (show (mag a).length≤(mag b).length - 1 by omega)
 omega
theorem Zid {a b i d e:Nat} (h:a / 1000000000 ^ (i+1)=b / 1000000000 ^ (i+1)) (ha:a / 1000000000 ^ i=d+1000000000 * (a / 1000000000 ^ (i+1))) (hb:b / 1000000000 ^ i=e+1000000000 * (b / 1000000000 ^ (i+1))) (hde:d < e):a < b:=by
 rcases Nat.lt_or_ge a b with h1|h1
 ·exact h1
 ·have:=Nat.div_le_div_right (c:=1000000000 ^ i) h1
  omega
theorem Zds {n k:Nat} (h:n < 10 ^ k):(mag n).length≤k:=by
 by_cases h0:n=0
 ·subst h0;rw [Zai];exact Nat.zero_le _
 ·have h1:=Zbf h0
  have h2:10 ^ ((mag n).length - 1)≤1000000000 ^ ((mag n).length - 1):=Nat.pow_le_pow_left (by omega) _
  rcases Nat.lt_or_ge k (mag n).length with h3|h3
  ·have h4:=Nat.pow_le_pow_right (n:=10) (by omega) (show k≤(mag n).length - 1 by omega)
   omega
  ·exact h3
theorem Zdb {s:List UInt8} {z:Int} (h:readW s=some z):z.natAbs < 10 ^ 600:=by
 rw [Zfb rfl rfl] at h
 split at h
 ·rename_i hc
  have h1:=Zb1 hc.2.2.1
  have h2:=Nat.pow_le_pow_right (n:=10) (by omega) hc.2.1
  have h3:=Option.some.inj h
  have h4:z.natAbs=numOf (Lib.trimPrefix s [45]):=by rw [← h3];split<;>omega
  rw [h4]
  exact Nat.lt_of_lt_of_le h1 h2
 ·cases h
theorem Zar {s:List UInt8} {z:Int} (h:readW s=some z):(mag z.natAbs).length≤600:=Zds (Zdb h)
theorem Zot {k:Nat} {x y:Int} (h1:x.natAbs < 10 ^ k) (h2:y.natAbs < 10 ^ k):(mag (x+y).natAbs).length≤k+1:=by
 refine Zds ?_
 have h3:(x+y).natAbs≤x.natAbs+y.natAbs:=by omega
 have h4:(10:Nat) ^ (k+1)=10 ^ k * 10:=Nat.pow_succ ..
 omega
theorem Zm2 {x y:Int} (h1:x.natAbs < 10 ^ 600) (h2:y.natAbs < 10 ^ 600):(mag (x+y).natAbs).length≤601:=Zot h1 h2
/-! texts of numbers are read back -/
theorem Zan {c:UInt8} {l:List UInt8}:Lib.hasPrefix (c::l) [45]=decide (c=45):=by
 unfold Lib.hasPrefix
 by_cases h:c=45
 ·subst h;rfl
 ·simp [List.isPrefixOf,h];exact fun h1=>h h1.symm
end Go.Sx
namespace Go.Sx
open Go
/-! ### a group is changed -/
theorem Zdy:∀ {xs:List Nat} {k p g:Nat},xs[k]?=some p→valB (xs.set k g)+1000000000 ^ k * p=valB xs+1000000000 ^ k * g
 | [],k,p,g,h=>by simp at h
 | x::xs,0,p,g,h=>by
  simp only [List.getElem?_cons_zero,Option.some.injEq] at h
  subst h
  simp only [List.set_cons_zero,valB,Nat.pow_zero,Nat.one_mul]
  omega
 | x::xs,k+1,p,g,h=>by
  simp only [List.getElem?_cons_succ] at h
  have ih:=Zdy (g:=g) h
  simp only [List.set_cons_succ,valB,Nat.pow_succ]
  rw [Nat.mul_comm (1000000000 ^ k) 1000000000,Nat.mul_assoc,Nat.mul_assoc]
  omega
theorem Zau (xs:List Nat) (k:Nat):valB (xs.take k)+1000000000 ^ (xs.take k).length * valB (xs.drop k)=valB xs:=by
 rw [← Zbd,List.take_append_drop]
theorem Ziw {xs:List Nat} {k d:Nat} (h:xs[k]?=some d):1000000000 ^ k * d≤valB xs:=by
 have h1:=Zaq h
 have h2:=Zau xs (k+1)
 omega
theorem Zg3 {xs:List Nat} {n k d:Nat} (h:valB xs < 1000000000 ^ n) (hk:n≤k) (hd:xs[k]?=some d):d=0:=by
 have h1:=Ziw hd
 have h2:=Nat.pow_le_pow_right (n:=1000000000) (by omega) hk
 rcases Nat.eq_zero_or_pos d with h3|h3
 ·exact h3
 ·have:=Nat.mul_le_mul_left (1000000000 ^ k) h3
  omega
theorem Zdz {xs:List Nat} {i d:Nat} (h:xs[i]?=some d):valB (xs.drop i)=d+1000000000 * valB (xs.drop (i+1)):=by
 obtain ⟨hi,he⟩:=List.getElem?_eq_some_iff.1 h
 rw [List.drop_eq_getElem_cons hi,he,valB]
theorem Zbk:∀ n,valB (List.replicate n 0)=0
 | 0=>rfl
 | n+1=>by rw [List.replicate_succ,valB,Zbk n]
theorem Zcs (n:Nat):∀ x∈List.replicate n 0,x < 1000000000:=fun x h=>by rw [List.eq_of_mem_replicate h];decide
/-! ### products -/
theorem Zk0 {V V' P c p t de A:Nat} (hs:V'+P * p=V+P * (t % 1000000000)) (ht:t=c+p+de) (hv:V+P * c=A):V'+P * 1000000000 * (t / 1000000000)=A+P * de:=by
 have h1:P * (t % 1000000000)+P * 1000000000 * (t / 1000000000)=P * t:=by
  rw [Nat.mul_assoc,← Nat.mul_add];congr 1;omega
 have h2:P * t=P * c+P * p+P * de:=by rw [ht,Nat.mul_add,Nat.mul_add]
 omega
theorem Zi8 {d e c p:Nat} (hd:d < 1000000000) (he:e < 1000000000) (hc:c < 1000000000) (hp:p < 1000000000):c+p+d * e < 1000000000 * 1000000000:=by
 have h1:d * e≤999999999 * 999999999:=Nat.mul_le_mul (by omega) (by omega)
 omega
theorem Zch (a b:Nat):(mag (a * b)).length≤(mag a).length+(mag b).length:=by
 have h1:=Zah a
 have h2:=Zah b
 by_cases h0:a * b=0
 ·rw [h0,Zai];simp
 ·have h3:=Zbf h0
  have h4:a * b < 1000000000 ^ ((mag a).length+(mag b).length):=by
   rw [Nat.pow_add]
   have hb:0 < b:=Nat.pos_of_ne_zero fun h=>h0 (by rw [h,Nat.mul_zero])
   exact Nat.lt_of_lt_of_le (Nat.mul_lt_mul_of_pos_right h1 hb) (Nat.mul_le_mul_left _ (Nat.le_of_lt h2))
  rcases Nat.lt_or_ge ((mag a).length+(mag b).length) (mag (a * b)).length with h5|h5
  ·have:=Nat.pow_le_pow_right (n:=1000000000) (by omega) (show (mag a).length+(mag b).length≤(mag (a * b)).length - 1 by omega)
   omega
  ·exact h5
theorem Zcb {n k:Nat} (h:n < 1000000000 ^ k):(mag n).length≤k:=by
 by_cases h0:n=0
 ·rw [h0,Zai];simp
 ·have h1:=Zbf h0
  rcases Nat.lt_or_ge k (mag n).length with h2|h2
  ·have:=Nat.pow_le_pow_right (n:=1000000000) (by omega) (show k≤(mag n).length - 1 by omega)
   omega
  ·exact h2
/-! ### a number by one group -/
theorem Zk2 {Q d r M g cur:Nat} (hv:Q * d+r=M) (hc:cur=r * 1000000000+g):(cur / d+1000000000 * Q) * d+cur % d=g+1000000000 * M:=by
 have h1:=Nat.div_add_mod' cur d
 rw [Nat.add_mul,Nat.mul_assoc,← hv,Nat.mul_add]
 omega
theorem Zn9 {d r g:Nat} (hr:r < d) (hg:g < 1000000000):(r * 1000000000+g) / d < 1000000000:=by
 rw [Nat.div_lt_iff_lt_mul (by omega)]
 have:(r+1) * 1000000000≤d * 1000000000:=Nat.mul_le_mul_right _ hr
 rw [Nat.mul_comm 1000000000 d]
 omega
theorem Zgt {a d q r:Nat} (h:q * d+r=a) (hr:r < d):a / d=q∧a % d=r:=by
 subst h
 constructor
 ·rw [Nat.mul_comm,Nat.mul_add_div (by omega),Nat.div_eq_of_lt hr,Nat.add_zero]
 ·rw [Nat.mul_comm,Nat.mul_add_mod,Nat.mod_eq_of_lt hr]
/-! ### the divisor is made great -/
theorem Zgj {t:Nat} (h1:1≤t) (h2:t < 1000000000):500000000≤t * (1000000000 / (t+1))∧(t+1) * (1000000000 / (t+1))≤1000000000∧1≤1000000000 / (t+1):=by
 have hs:1≤1000000000 / (t+1):=by rw [Nat.le_div_iff_mul_le (by omega)];omega
 have hm:=Nat.div_add_mod 1000000000 (t+1)
 have hl:=Nat.mod_lt 1000000000 (show 0 < t+1 by omega)
 generalize 1000000000 / (t+1)=s at hs hm ⊢
 obtain ⟨s',rfl⟩:∃ s',s=s'+1:=⟨s - 1,by omega⟩
 obtain ⟨t',rfl⟩:∃ t',t=t'+1:=⟨t - 1,by omega⟩
 have e1:(t'+1+1) * (s'+1)=t' * s'+t'+2 * s'+2:=by grind
 have e2:(t'+1) * (s'+1)=t' * s'+t'+s'+1:=by grind
 refine ⟨?_,?_,hs⟩
 ·rw [e2];rw [e1] at hm;omega
 ·omega
theorem Zmb {b t l:Nat} (h1:1≤t) (h2:t < 1000000000) (hlo:t * 1000000000 ^ l≤b) (hhi:b < (t+1) * 1000000000 ^ l) :
  500000000 * 1000000000 ^ l≤b * (1000000000 / (t+1))∧b * (1000000000 / (t+1)) < 1000000000 ^ (l+1):=by
 obtain ⟨k1,k2,k3⟩:=Zgj h1 h2
 generalize 1000000000 / (t+1)=s at k1 k2 k3 ⊢
 generalize hP:1000000000 ^ l=P at hlo hhi ⊢
 constructor
 ·calc 500000000 * P≤t * s * P:=Nat.mul_le_mul_right _ k1
   _=t * P * s:=by rw [Nat.mul_right_comm]
   _≤b * s:=Nat.mul_le_mul_right _ hlo
 ·rw [Nat.pow_succ,hP]
  calc b * s < (t+1) * P * s:=Nat.mul_lt_mul_of_pos_right hhi k3
   _=(t+1) * s * P:=by rw [Nat.mul_right_comm]
   _≤1000000000 * P:=Nat.mul_le_mul_right _ k2
   _=P * 1000000000:=Nat.mul_comm _ _
/-! ### one group of a quotient: the first two groups tell it, but for little -/
section
variable {B K v1 v2 v' h u2 w' q r V W:Nat}
theorem Zod (hv1:0 < v1) (hV:V=(v1 * B+v2) * K+v') (hW:W=(h * B+u2) * K+w') (hw:w' < K) (hu2:u2 < B) (_hB:0 < B):W / V≤h / v1:=by
 have hK:0 < K:=by omega
 rw [Nat.le_div_iff_mul_le hv1]
 have hd:W / V * V≤W:=Nat.div_mul_le_self W V
 generalize W / V=t at hd ⊢
 apply Nat.le_of_lt_succ
 have h1:t * v1 * (B * K) < (h+1) * (B * K):=by
  calc t * v1 * (B * K)=t * (v1 * B * K):=by rw [Nat.mul_assoc,Nat.mul_assoc]
   _≤t * V:=Nat.mul_le_mul_left _ (by rw [hV,Nat.add_mul];omega)
   _≤W:=hd
   _ < (h * B+u2) * K+K:=by omega
   _=(h * B+u2+1) * K:=by rw [Nat.add_mul _ 1 K,Nat.one_mul]
   _≤(h * B+B) * K:=Nat.mul_le_mul_right _ (by omega)
   _=(h+1) * (B * K):=by rw [← Nat.succ_mul,Nat.mul_assoc]
 exact Nat.lt_of_mul_lt_mul_right h1
theorem Zp3 (hV:V=(v1 * B+v2) * K+v') (hW:W=(h * B+u2) * K+w') (hw:w' < K) (hq:q * v1+r=h) (hgt:r * B+u2 < q * v2):W / V < q:=by
 apply Nat.div_lt_of_lt_mul
 have h1:h * B+u2+1≤q * (v1 * B+v2):=by
  have:q * (v1 * B+v2)=q * v1 * B+q * v2:=by rw [Nat.mul_add,Nat.mul_assoc]
  rw [this,← hq,Nat.add_mul]
  omega
 calc W < (h * B+u2) * K+K:=by omega
  _=(h * B+u2+1) * K:=by rw [Nat.add_mul _ 1 K,Nat.one_mul]
  _≤q * (v1 * B+v2) * K:=Nat.mul_le_mul_right _ h1
  _=(v1 * B+v2) * K * q:=by rw [Nat.mul_assoc,Nat.mul_comm]
  _≤V * q:=Nat.mul_le_mul_right _ (by omega)
theorem Zoe (hv1:0 < v1) (hV:V=(v1 * B+v2) * K+v') (hv:v' < K) (hW:W=(h * B+u2) * K+w') (hq:q * v1+r=h) (hqB:q < B) (hle:q * v2≤r * B+u2):q≤W / V+1:=by
 have hVB:B * K≤V:=by
  have:1 * (B * K)≤v1 * (B * K):=Nat.mul_le_mul_right _ hv1
  rw [hV,Nat.add_mul]
  rw [← Nat.mul_assoc v1] at this
  omega
 have hK:0 < K:=by omega
 have hV0:0 < V:=Nat.lt_of_lt_of_le (Nat.mul_pos (by omega) hK) hVB
 have h1:q * V≤W+q * K:=by
  calc q * V≤q * ((v1 * B+v2+1) * K):=Nat.mul_le_mul_left _ (by rw [hV,Nat.add_mul _ 1 K];omega)
   _=(q * v1 * B+q * v2+q) * K:=by rw [← Nat.mul_assoc];congr 1;rw [Nat.mul_add,Nat.mul_add,Nat.mul_assoc,Nat.mul_one]
   _≤(h * B+u2+q) * K:=Nat.mul_le_mul_right _ (by rw [← hq,Nat.add_mul];omega)
   _=(h * B+u2) * K+q * K:=Nat.add_mul _ _ _
   _≤W+q * K:=by omega
 have h2:q * K < V:=Nat.lt_of_lt_of_le (Nat.mul_lt_mul_of_pos_right hqB hK) hVB
 have h3:W < (W / V+1) * V:=by rw [Nat.mul_comm];exact Nat.lt_mul_div_succ W hV0
 have h4:q * V < (W / V+2) * V:=by
  have:(W / V+2) * V=(W / V+1) * V+V:=Nat.succ_mul _ _
  omega
 have:=Nat.lt_of_mul_lt_mul_right h4
 omega
theorem Zob (hV0:0 < V) (hV:V=(v1 * B+v2) * K+v') (hv:v' < K) (hv2:v2 < B) (hW:W=(h * B+u2) * K+w') (hq:q * v1+r=h) (hqB:q≤B) (hr:B≤r):q≤W / V:=by
 rw [Nat.le_div_iff_mul_le hV0]
 calc q * V≤q * ((v1 * B+v2+1) * K):=Nat.mul_le_mul_left _ (by rw [hV,Nat.add_mul _ 1 K];omega)
  _=(q * v1 * B+q * (v2+1)) * K:=by rw [← Nat.mul_assoc];congr 1;rw [Nat.add_assoc,Nat.mul_add,Nat.mul_assoc]
  _ ≤ (h * B) * K:=Nat.mul_le_mul_right _ (by
    have h1:q * (v2+1)≤B * B:=Nat.mul_le_mul hqB hv2
    have h2:B * B≤r * B:=Nat.mul_le_mul_right _ hr
    rw [← hq,Nat.add_mul];omega)
  _≤W:=by rw [hW,Nat.add_mul];omega
theorem Zmh {u0 u1:Nat} (h1:u0 * B+u1=h) (hu1:u1 < B) (hv2:v2 < B) (hv:v' < K) (hV:V=(v1 * B+v2) * K+v') (hW:W=(h * B+u2) * K+w') (hlt:W < B * V) (hb:B≤2 * v1) (_hB:0 < B):h / v1≤B+1:=by
 have hK:0 < K:=by omega
 have hv1:0 < v1:=by omega
 have h2 : u0≤v1:=by
  apply Nat.le_of_lt_succ
  have:u0 * (B * B * K) < (v1+1) * (B * B * K):=by
   calc u0 * (B * B * K)=u0 * B * (B * K):=by simp only [Nat.mul_assoc]
    _≤h * (B * K):=Nat.mul_le_mul_right _ (by omega)
    _=h * B * K:=by rw [Nat.mul_assoc]
    _≤W:=by rw [hW,Nat.add_mul];omega
    _ < B * V:=hlt
    _ ≤ B * ((v1 * B+B) * K):=Nat.mul_le_mul_left _ (by
      have:(v1 * B+v2+1) * K≤(v1 * B+B) * K:=Nat.mul_le_mul_right _ (by omega)
      rw [hV];rw [Nat.add_mul _ 1 K] at this;omega)
    _=(v1+1) * (B * B * K):=by rw [← Nat.succ_mul,← Nat.mul_assoc,← Nat.mul_assoc,Nat.mul_comm B,Nat.mul_assoc (v1.succ),Nat.mul_assoc v1.succ]
  exact Nat.lt_of_mul_lt_mul_right this
 apply Nat.le_of_lt_succ
 rw [Nat.div_lt_iff_lt_mul hv1]
 have h3:u0 * B≤v1 * B:=Nat.mul_le_mul_right _ h2
 have h4:(B+1).succ * v1=v1 * B+2 * v1:=by rw [Nat.succ_mul,Nat.succ_mul,Nat.mul_comm];omega
 omega
end
/-! ### it is taken away -/
theorem Zl6 {X X' P c b b' u g q d N A:Nat} (hX:X'+P * u=X+P * g) (hx:X+N=A+P * (c+b)) (h:g+(c+q * d) % 1000000000+b=u+1000000000 * b'):X'+(N+P * (q * d))=A+P * 1000000000 * ((c+q * d) / 1000000000+b'):=by
 have h1:P * g+P * ((c+q * d) % 1000000000)+P * b=P * u+P * 1000000000 * b':=by
  rw [← Nat.mul_add,← Nat.mul_add,h,Nat.mul_add,Nat.mul_assoc]
 have h2:P * ((c+q * d) % 1000000000)+P * 1000000000 * ((c+q * d) / 1000000000)=P * c+P * (q * d):=by
  rw [Nat.mul_assoc,← Nat.mul_add,Nat.mod_add_div,Nat.mul_add]
 rw [Nat.mul_add P c b] at hx
 rw [Nat.mul_add]
 omega
theorem Zm1 {X X' P o o' u g d N A:Nat} (hX:X'+P * u=X+P * g) (hx:X+P * o=A+N) (h:g+1000000000 * o'=u+d+o):X'+P * 1000000000 * o'=A+(N+P * d):=by
 have h1:P * g+P * 1000000000 * o'=P * u+P * d+P * o:=by
  rw [Nat.mul_assoc,← Nat.mul_add,h,Nat.mul_add,Nat.mul_add]
 omega
/-! a part, from lo on -/
theorem Zh8 {α:Type} {xs:List α} {lo i:Nat} {g:α}:(xs.set (lo+i) g).drop lo=(xs.drop lo).set i g:=by
 rw [List.drop_set]
 rw [if_neg (by omega),Nat.add_sub_cancel_left]
theorem Zdn {xs:List Nat} {lo i p g:Nat} (h:xs[lo+i]?=some p):valB ((xs.set (lo+i) g).drop lo)+1000000000 ^ i * p=valB (xs.drop lo)+1000000000 ^ i * g:=by
 rw [Zh8]
 exact Zdy (by rw [List.getElem?_drop];exact h)
theorem Zkz {xs:List Nat} {k x0 x1:Nat} (h0:xs[k]?=some x0) (h1:xs[k+1]?=some x1) (hl:xs.length=k+2):valB xs=(x1 * 1000000000+x0) * 1000000000 ^ k+valB (xs.take k):=by
 have e0:=Zaq h0
 have e1:=Zaq h1
 rw [List.take_of_length_le (by omega),e0,Nat.pow_succ] at e1
 rw [e1,Nat.add_mul,Nat.mul_comm x0,Nat.mul_comm (x1 * 1000000000),← Nat.mul_assoc,Nat.mul_comm _ x1,← Nat.mul_assoc,Nat.mul_comm x1,Nat.mul_assoc,Nat.mul_comm x1]
 omega
theorem Zhx {xs:List Nat} {k x0 x1 x2:Nat} (h0:xs[k]?=some x0) (h1:xs[k+1]?=some x1) (h2:xs[k+2]?=some x2) (hz:valB (xs.drop (k+3))=0):valB xs=((x2 * 1000000000+x1) * 1000000000+x0) * 1000000000 ^ k+valB (xs.take k):=by
 have e0:=Zaq h0
 have e1:=Zaq h1
 have e2:=Zaq h2
 have e3:=Zau xs (k+3)
 rw [hz,Nat.mul_zero,Nat.add_zero] at e3
 have p1:1000000000 ^ (k+1)=1000000000 ^ k * 1000000000:=Nat.pow_succ ..
 have p2:1000000000 ^ (k+2)=1000000000 ^ k * 1000000000 * 1000000000:=by rw [Nat.pow_succ,Nat.pow_succ]
 rw [← e3,e2,e1,e0,p1,p2]
 clear e0 e1 e2 e3 p1 p2 h0 h1 h2 hz
 generalize 1000000000 ^ k=K
 generalize valB (xs.take k)=T
 grind
theorem Zmm {xs:List Nat} {k x0:Nat} (h0:xs[k]?=some x0) (hz:valB (xs.drop (k+1))=0):valB xs=valB (xs.take k)+1000000000 ^ k * x0:=by
 have e0:=Zaq h0
 have e3:=Zau xs (k+1)
 rw [hz,Nat.mul_zero,Nat.add_zero] at e3
 omega
theorem Zhv {xs:List Nat} {k:Nat} (h:valB xs < 1000000000 ^ k):valB (xs.drop k)=0:=by
 have e:=Zau xs k
 rcases Nat.lt_or_ge xs.length k with h1|h1
 ·rw [List.drop_eq_nil_of_le (by omega)];rfl
 ·rw [List.length_take,Nat.min_eq_left h1] at e
  rcases Nat.eq_zero_or_pos (valB (xs.drop k)) with h2|h2
  ·exact h2
  ·have:=Nat.mul_le_mul_left (1000000000 ^ k) h2
   omega
theorem Zmg {L P u0 q V W k:Nat} (_hL:L < P) (hV:V < P) (hW:L+P * u0+q * V=W+P * k) (hk:k≤u0) (hq:W / V≤q) (hV0:0 < V):q=W / V∧L=W % V:=by
 obtain ⟨j,rfl⟩:∃ j,u0=k+j:=⟨u0 - k,by omega⟩
 rw [Nat.mul_add] at hW
 have h1:L+P * j+q * V=W:=by omega
 have h2:q≤W / V:=by rw [Nat.le_div_iff_mul_le hV0];omega
 have h3:q=W / V:=by omega
 have h4:=Nat.div_add_mod' W V
 have h5:=Nat.mod_lt W hV0
 rw [← h3] at h4
 refine ⟨h3,?_⟩
 have h6:P * j=0:=by
  rcases Nat.eq_zero_or_pos j with h|h
  ·rw [h,Nat.mul_zero]
  ·have:=Nat.mul_le_mul_left P h
   omega
 omega
theorem Zoc {L P u0 q V W k L' o:Nat} (hL:L < P) (hV:V < P) (hW:L+P * u0+q * V=W+P * k) (hk:u0 < k) (hq:q≤W / V+1) (hV0:0 < V) (ho:L'+P * o=L+V) (hL':L' < P):q=W / V+1∧L'=W % V:=by
 obtain ⟨j,rfl⟩:∃ j,k=u0+1+j:=⟨k - u0 - 1,by omega⟩
 rw [Nat.mul_add,Nat.mul_add,Nat.mul_one] at hW
 have h1:W / V < q:=by
  rw [Nat.div_lt_iff_lt_mul hV0];omega
 have h2:q=W / V+1:=by omega
 have h4:=Nat.div_add_mod' W V
 have h5:=Nat.mod_lt W hV0
 refine ⟨h2,?_⟩
 rw [h2,Nat.succ_mul] at hW
 -- W % V + P + P j = L + V = L' + P o
 have h6:W % V+P * (j+1)=L'+P * o:=by rw [Nat.mul_add,Nat.mul_one];omega
 have h7:(W % V+P * (j+1)) % P=(L'+P * o) % P:=by rw [h6]
 rw [Nat.add_mul_mod_self_left,Nat.add_mul_mod_self_left,Nat.mod_eq_of_lt hL',Nat.mod_eq_of_lt (by omega)] at h7
 exact h7.symm
theorem Zoq {X P W V Q U0:Nat} (h:X+P * W+P * 1000000000 * (V * Q)=U0):X+P * (W % V)+P * (V * (W / V+1000000000 * Q))=U0:=by
 have h1:P * W=P * (V * (W / V))+P * (W % V):=by rw [← Nat.mul_add,Nat.div_add_mod]
 have h2:P * (V * (1000000000 * Q))=P * 1000000000 * (V * Q):=by rw [Nat.mul_left_comm V,Nat.mul_assoc]
 rw [Nat.mul_add V,Nat.mul_add P,h2]
 omega
theorem Zor {u V X:Nat} (hu:u < 1000000000) (h:X < V):u+1000000000 * X < 1000000000 * V:=by
 have:=Nat.mul_le_mul_left 1000000000 (show X+1≤V from h)
 omega
/-! ### roots -/
theorem Zke (x r:Int) (hx:0≤x) (hr:0≤r):∀ j:Nat,((j:Int)+1) * r * x ^ j≤(j:Int) * x ^ (j+1)+r ^ (j+1)
 | 0=>by simp [Int.pow_succ]
 | j + 1=>by
  have ih:=Zke x r hx hr j
  have h1:0≤((j:Int)+1) * x ^ j * ((x - r) * (x - r)):=by
   apply Int.mul_nonneg
   ·exact Int.mul_nonneg (by omega) (Int.pow_nonneg hx)
   ·rcases Int.le_total 0 (x - r) with h|h
    ·exact Int.mul_nonneg h h
    ·exact Int.mul_nonneg_of_nonpos_of_nonpos h h
  have h2:0≤r * ((j:Int) * x ^ (j+1)+r ^ (j+1) - ((j:Int)+1) * r * x ^ j):=Int.mul_nonneg hr (by omega)
  have h3:(((j+1:Nat):Int)) * x ^ (j+1+1)+r ^ (j+1+1) - (((j+1:Nat):Int)+1) * r * x ^ (j+1)=((j:Int)+1) * x ^ j * ((x - r) * (x - r))+r * ((j:Int) * x ^ (j+1)+r ^ (j+1) - ((j:Int)+1) * r * x ^ j):=by
   simp only [Int.pow_succ,Int.natCast_add,Int.cast_ofNat_Int]
   grind
  omega
theorem Zmn {m x r j:Nat} (hx:0 < x) (hr:r ^ (j+1)≤m):r≤(j * x+m / x ^ j) / (j+1):=by
 rw [Nat.le_div_iff_mul_le (by omega)]
 rcases Nat.le_total (r * (j+1)) (j * x) with h|h
 ·exact Nat.le_trans h (Nat.le_add_right _ _)
 ·have h1:(r * (j+1) - j * x) * x ^ j≤m:=by
   refine Nat.le_trans ?_ hr
   have h2:=Zke (x:Int) (r:Int) (by omega) (by omega) j
   rw [Nat.sub_mul]
   have h3:r * (j+1) * x ^ j≤j * x ^ (j+1)+r ^ (j+1):=by
    have h4:(((r * (j+1) * x ^ j:Nat)):Int)≤((j * x ^ (j+1)+r ^ (j+1):Nat):Int):=by
     simp only [Int.natCast_mul,Int.natCast_add,Int.natCast_pow,Int.cast_ofNat_Int]
     rw [Int.mul_comm (r:Int)]
     exact h2
    exact Int.ofNat_le.1 h4
   have h4:j * x * x ^ j=j * x ^ (j+1):=by rw [Nat.pow_succ,Nat.mul_assoc,Nat.mul_comm x]
   omega
  have h2:r * (j+1) - j * x≤m / x ^ j:=(Nat.le_div_iff_mul_le (Nat.pow_pos hx)).2 h1
  omega
theorem Zi7 {m x j:Nat} (hx:0 < x) (h:x≤(j * x+m / x ^ j) / (j+1)):x ^ (j+1)≤m:=by
 rw [Nat.le_div_iff_mul_le (by omega),Nat.mul_add,Nat.mul_one,Nat.mul_comm x j] at h
 have h1:x≤m / x ^ j:=by omega
 rw [Nat.le_div_iff_mul_le (Nat.pow_pos hx)] at h1
 rw [Nat.pow_succ,Nat.mul_comm]
 exact h1
def rootUp (m k:Nat):Nat→Nat
 | 0=>0
 | b+1=>if (b+1) ^ k≤m then b+1 else rootUp m k b
def rootN (m k:Nat):Nat:=rootUp m k m
theorem Zgk {m k:Nat} (hk:0 < k):∀ b,rootUp m k b ^ k≤m
 | 0=>by unfold rootUp;rw [Nat.zero_pow hk];omega
 | b+1=>by
  unfold rootUp
  split
  ·assumption
  ·exact Zgk hk b
theorem Zgl {m k r:Nat} (h:r ^ k≤m):∀ b,r≤b→r≤rootUp m k b
 | 0,hb=>by unfold rootUp;exact hb
 | b + 1,hb=>by
  unfold rootUp
  split
  ·exact hb
  ·rename_i hn
   refine Zgl h b ?_
   rcases Nat.lt_or_ge r (b+1) with h1|h1
   ·omega
   ·have:r=b+1:=by omega
    subst this
    exact absurd h hn
theorem Zh5 {r k m:Nat} (hk:0 < k) (h:r ^ k≤m):r≤m:=by
 rcases Nat.eq_zero_or_pos r with h0|h0
 ·omega
 ·have:=Nat.pow_le_pow_right h0 (show 1≤k from hk)
  rw [Nat.pow_one] at this
  omega
theorem Zd3 {m k:Nat} (hk:0 < k):rootN m k ^ k≤m:=Zgk hk m
theorem Zd4 {m k r:Nat} (hk:0 < k) (h:r ^ k≤m):r≤rootN m k:=Zgl h m (Zh5 hk h)
theorem Zj8 {m k r:Nat} (hk:0 < k) (h1:r ^ k≤m) (h2:m < (r+1) ^ k):rootN m k=r:=by
 have h3:=Zd4 hk h1
 rcases Nat.lt_or_ge r (rootN m k) with h4|h4
 ·have h5:(r+1) ^ k≤rootN m k ^ k:=Nat.pow_le_pow_left h4 k
  have:=Zd3 (m:=m) hk
  omega
 ·omega
end Go.Sx
namespace Go.Sx
open Go
def signI (z:Int):Int:=if z < 0 then -1 else if z=0 then 0 else 1
def checkW (s:List UInt8):Int:=if (readW s).isSome then 0 else 10
def signW (s:List UInt8):Int × Int:=match readW s with
 | some x=>(signI x,0)
 | none=>(0,10)
def cmpW (s t:List UInt8):Int × Int:=match readW s,readW t with
 | some x,some y=>(signI (x - y),0)
 | _,_=>(0,10)
def unW (f:Int→Int) (s:List UInt8):List UInt8 × Int:=match readW s with
 | some x=>outW (f x)
 | none=>([],10)
def binW (f:Int→Int→Int) (s t:List UInt8):List UInt8 × Int:=match readW s,readW t with
 | some x,some y=>outW (f x y)
 | _,_=>([],10)
def gcdI (x y:Int):Int:=(Nat.gcd x.natAbs y.natAbs:Nat)
def divW (s t:List UInt8):List UInt8 × List UInt8 × Int:=match readW s,readW t with
 | some x,some y=>if y=0 then ([],[],7) else (textI (x / y),textI (x % y),0)
 | _,_=>([],[],10)
def powW (s:List UInt8) (n:Int):List UInt8 × Int:=match readW s with
 | some x=>if n < 0∨40 < n then ([],2) else outW (x ^ n.toNat)
 | none=>([],10)
def rootW (s:List UInt8) (k:Int):List UInt8 × Int:=match readW s with
 | some x=>if k < 1∨12 < k∨x < 0 then ([],2) else outW (rootN x.natAbs k.toNat:Nat)
 | none=>([],10)
def intW (s:List UInt8):Int × Int:=match readW s with
 | some x=>if -9223372036854775808≤x∧x≤9223372036854775807 then (x,0) else (0,6)
 | none=>(0,10)
/-! ### lengths -/
theorem Zel {k r:Nat} (hk:0 < k) (h:r < 10 ^ k):Lib.nDigits r≤k:=by
 obtain ⟨j,rfl⟩:∃ j,k=j+1:=⟨k - 1,by omega⟩
 exact Za9 h
theorem Zcv {s:List UInt8} {z:Int} (h:readW s=some z):Lib.nDigits z.natAbs≤600:=Zel (by decide) (Zdb h)
theorem Zg9 {k a b:Nat} (hk:0 < k) (h:a≤b) (hb:Lib.nDigits b≤k):Lib.nDigits a≤k:=by
 refine Zel hk ?_
 have h1:b < 10 ^ Lib.nDigits b:=by
  have h:=Zb1 (l:=Lib.decDigits b) (Zje b)
  rwa [Zfm,Zb5] at h
 have h2:=Nat.pow_le_pow_right (n:=10) (by omega) hb
 exact Nat.lt_of_le_of_lt h (Nat.lt_of_lt_of_le h1 h2)
theorem Zex {a b:Nat} (h:a≤b) (hb:Lib.nDigits b≤600):Lib.nDigits a≤600:=Zg9 (by decide) h hb
theorem Zi2 {z:Int} (h:Lib.nDigits z.natAbs≤600):outW z=(textI z,0):=by rw [outW,if_neg (by omega)]
theorem Zlg {x y:Int} (hx:Lib.nDigits x.natAbs≤600):Lib.nDigits (x / y).natAbs≤600:=Zex (Int.natAbs_ediv_le_natAbs x y) hx
theorem Zgn {x y:Int} (hy:y≠0):(x % y).natAbs < y.natAbs:=by
 have h1:=Int.emod_nonneg x hy
 have h2:=Int.emod_lt x hy
 omega
theorem Zk9 {x y:Int} (hy:y≠0) (h:Lib.nDigits y.natAbs≤600):Lib.nDigits (x % y).natAbs≤600:=Zex (Nat.le_of_lt (Zgn hy)) h
/-! ### signs of a quotient -/
theorem Zgs {x y q r:Int} (h:r+y * q=x) (h0:0≤r) (h1:r < y.natAbs):x / y=q∧x % y=r:=by
 rcases Int.lt_or_gt_of_ne (show y≠0 by intro h;subst h;simp at h1;omega) with hy|hy
 ·have:=(Int.ediv_emod_unique (a:=x) (b:=-y) (r:=r) (q:=-q) (by omega)).2 ⟨by rw [Int.neg_mul_neg];exact h,h0,by omega⟩
  rw [Int.ediv_neg,Int.emod_neg] at this
  exact ⟨by omega,this.2⟩
 ·exact (Int.ediv_emod_unique (by omega)).2 ⟨h,h0,by omega⟩
theorem Zki {x y:Int} (hy:y≠0) (h:¬ (x < 0∧x.natAbs % y.natAbs≠0)):x / y=(if (x < 0)≠(y < 0) then -((x.natAbs / y.natAbs:Nat):Int) else ((x.natAbs / y.natAbs:Nat):Int))∧x % y=((x.natAbs % y.natAbs:Nat):Int):=by
 have hm:=Nat.div_add_mod x.natAbs y.natAbs
 have hl:=Nat.mod_lt x.natAbs (show 0 < y.natAbs by omega)
 generalize x.natAbs / y.natAbs=Q at hm ⊢
 generalize x.natAbs % y.natAbs=R at hm hl h ⊢
 have hz:((y.natAbs:Int) * (Q:Int))+(R:Int)=(x.natAbs:Int):=by rw [← hm];simp
 refine Zgs ?_ (by omega) (by omega)
 by_cases h1:x < 0<;>by_cases h2:y < 0
 ·rw [if_neg (by simp [h1,h2])]
  rw [show (y.natAbs:Int)=-y by omega,Int.neg_mul] at hz
  omega
 ·rw [if_pos (by simp [h1,h2])]
  rw [show (y.natAbs:Int)=y by omega] at hz
  rw [Int.mul_neg]
  omega
 ·rw [if_pos (by simp [h1,h2])]
  rw [show (y.natAbs:Int)=-y by omega,Int.neg_mul] at hz
  rw [Int.mul_neg]
  omega
 ·rw [if_neg (by simp [h1,h2])]
  rw [show (y.natAbs:Int)=y by omega] at hz
  omega
theorem Zey {x y:Int} (hy:y≠0) (hx:x < 0) (h:x.natAbs % y.natAbs≠0):x / y=(if y < 0 then ((x.natAbs / y.natAbs+1:Nat):Int) else -((x.natAbs / y.natAbs+1:Nat):Int))∧x % y=((y.natAbs - x.natAbs % y.natAbs:Nat):Int):=by
 have hm:=Nat.div_add_mod x.natAbs y.natAbs
 have hl:=Nat.mod_lt x.natAbs (show 0 < y.natAbs by omega)
 generalize x.natAbs / y.natAbs=Q at hm ⊢
 generalize x.natAbs % y.natAbs=R at hm hl h ⊢
 have hz:((y.natAbs:Int) * (Q:Int))+(R:Int)=(x.natAbs:Int):=by rw [← hm];simp
 refine Zgs ?_ (by omega) (by omega)
 by_cases h2:y < 0
 ·rw [if_pos h2]
  rw [show (y.natAbs:Int)=-y by omega,Int.neg_mul] at hz
  rw [Int.natCast_add,Int.mul_add]
  omega
 ·rw [if_neg h2]
  rw [show (y.natAbs:Int)=y by omega] at hz
  rw [Int.mul_neg,Int.natCast_add,Int.mul_add]
  omega
/-! ### signs of a power -/
theorem Zof (x:Int):∀ n:Nat,(x ^ n).natAbs=x.natAbs ^ n∧(x ^ n < 0↔x < 0∧n % 2=1):=by
 intro n
 refine ⟨Int.natAbs_pow x n,?_⟩
 induction n with
 | zero=>simp
 | succ n ih =>
  rw [Int.pow_succ]
  rcases Int.lt_trichotomy x 0 with h|h|h
  ·rcases Nat.mod_two_eq_zero_or_one n with h2|h2
   ·have h3:¬ x ^ n < 0:=fun h4=>by have:=(ih.1 h4).2;omega
    have h4:x ^ n≠0:=by
     intro h5
     have h6:=Int.natAbs_pow x n
     rw [h5] at h6
     have:=Nat.pow_pos (n:=n) (show 0 < x.natAbs by omega)
     simp at h6
     omega
    have:=Int.mul_neg_of_pos_of_neg (show 0 < x ^ n by omega) h
    omega
   ·have h3:=ih.2 ⟨h,h2⟩
    have:=Int.mul_pos_of_neg_of_neg h3 h
    omega
  ·subst h;simp
  ·have h3:¬ x ^ n < 0:=fun h4=>by have:=(ih.1 h4).1;omega
   have:=Int.mul_nonneg (show 0≤x ^ n by omega) (show 0≤x by omega)
   omega
/-! ### integers out of texts -/
theorem Zk7 {c:UInt8} {r:List UInt8}:numOf (c::r)=dig c * 10 ^ r.length+numOf r:=by
 have:=Za1 (a:=[c]) (b:=r)
 rw [List.singleton_append] at this
 rw [this]
 congr 1
 simp [numOf]
theorem Zd7:∀ (l:List UInt8) (acc:Nat),(∀ c∈l,isDig c=true)→acc≤18446744073709551615→Lib.parseUintM 18446744073709551615 acc l=if acc * 10 ^ l.length+numOf l≤18446744073709551615 then .ok (acc * 10 ^ l.length+numOf l) else .range
 | [],acc,_,h=>by simp [Lib.parseUintM,numOf,h]
 | c :: r,acc,hd,h=>by
  have hc:=Zfp.1 (hd c (List.mem_cons_self ..))
  have hp:0 < 10 ^ r.length:=Nat.pow_pos (by omega)
  have e:acc * 10 ^ (c::r).length+numOf (c::r)=(acc * 10+(c.toNat - 48)) * 10 ^ r.length+numOf r:=by
   rw [Zk7,dig,List.length_cons,Nat.pow_succ,Nat.add_mul,← Nat.mul_assoc,Nat.mul_right_comm acc]
   omega
  have hge:acc * 10+(c.toNat - 48)≤(acc * 10+(c.toNat - 48)) * 10 ^ r.length:=Nat.le_mul_of_pos_right _ hp
  rw [Lib.parseUintM,if_pos hc,e]
  by_cases h1:1844674407370955162≤acc
  ·rw [if_pos h1,if_neg (by omega)]
  ·rw [if_neg h1]
   by_cases h2:18446744073709551615 < acc * 10+(c.toNat - 48)
   ·rw [if_pos h2,if_neg (by omega)]
   ·rw [if_neg h2]
    exact Zd7 r _ (fun x hx=>hd x (List.mem_cons_of_mem _ hx)) (by omega)
theorem Zfj {s:List UInt8} {z:Int} (h:readW s=some z):Lib.parseIntB 64 s=if -9223372036854775808≤z∧z≤9223372036854775807 then .ok z else .range:=by
 cases s with
 | nil=>simp [readW,Lib.hasPrefix] at h
 | cons c r =>
  unfold readW at h
  rw [Zan] at h
  unfold Lib.parseIntB
  simp only []
  have pU:∀ l:List UInt8,l≠[]→(∀ c∈l,isDig c=true)→Lib.parseUintB 64 l=if numOf l≤18446744073709551615 then .ok (numOf l) else .range:=fun l h0 h1=>by
   unfold Lib.parseUintB
   rw [if_neg h0]
   have:=Zd7 l 0 h1 (by omega)
   simpa using this
  by_cases hc:c=45
  ·subst hc
   simp only [decide_true,if_true,List.drop_succ_cons,List.drop_zero] at h
   split at h
   ·rename_i h5
    cases h
    have h45:(45:UInt8).toNat=45:=rfl
    rw [if_pos (.inr h45),pU r (by intro h0;rw [h0] at h5;simp at h5) h5.2.2.1]
    by_cases h6:numOf r≤18446744073709551615
    ·rw [if_pos h6]
     simp only [h45,not_true_eq_false,false_and,if_false,true_and]
     by_cases h7:2 ^ 63 < numOf r
     ·rw [if_pos h7,if_neg (by omega)]
     ·rw [if_neg h7]
      simp only [if_true]
      rw [if_pos (by omega)]
    ·rw [if_neg h6]
     simp only []
     rw [if_neg (by omega)]
   ·cases h
  ·simp only [hc,decide_false,Bool.false_eq_true,if_false] at h
   split at h
   ·rename_i h5
    cases h
    have hcd:=Zfp.1 (h5.2.2.1 c (List.mem_cons_self ..))
    have h45:¬ c.toNat=45:=by omega
    rw [if_neg (by omega),pU (c::r) (by simp) h5.2.2.1]
    by_cases h6:numOf (c::r)≤18446744073709551615
    ·rw [if_pos h6]
     simp only [h45,not_false_eq_true,true_and,false_and,if_false]
     by_cases h7:2 ^ 63≤numOf (c::r)
     ·rw [if_pos h7,if_neg (by omega)]
     ·rw [if_neg h7,if_pos (by omega)]
    ·rw [if_neg h6]
     simp only []
     rw [if_neg (by omega)]
   ·cases h
end Go.Sx
namespace Go.Sx
open Go
end Go.Sx
namespace Go.Sx
open Go
theorem Zkk:∀ (k:Nat) {l:List UInt8},l.length=k→(∀ c∈l,isDig c=true)→l≠[]→l[0]?≠some 48→l=Lib.decDigits (numOf l):=by
 intro k
 induction k with
 | zero=>intro l hl _ h _;exact absurd (List.length_eq_zero_iff.1 hl) h
 | succ k ih =>
  intro l hl hd hne h0
  rcases List.eq_nil_or_concat l with rfl|⟨xs,c,rfl⟩
  ·exact absurd rfl hne
  ·rw [List.concat_eq_append] at *
   have hc:=hd c (by simp)
   have hci:=Zfp.1 hc
   have hcd:UInt8.ofNat (48+dig c)=c:=by
    have:48+dig c=c.toNat:=by unfold dig;omega
    rw [this];simp
   by_cases hx:xs=[]
   ·subst hx
    have h1:numOf ([]++[c])=dig c:=by simp [numOf]
    rw [h1,Zba (Zmz hc),hcd];rfl
   ·have hl':xs.length=k:=by simp at hl;exact hl
    have h1:xs[0]?≠some 48:=fun h=>h0 (by rw [List.getElem?_append_left (List.length_pos_iff.2 hx)];exact h)
    have ih':=ih hl' (fun d hm=>hd d (List.mem_append_left _ hm)) hx h1
    have hp:=Zcw (l:=xs) (fun d hm=>hd d (List.mem_append_left _ hm)) (List.length_pos_iff.2 hx) h1
    have hdl:=Zmz hc
    rw [Zca,Zer (by omega),show (numOf xs * 10+dig c) / 10=numOf xs by omega,show (numOf xs * 10+dig c) % 10=dig c by omega,hcd,← ih']
theorem Ze6 (z:Int):textI z=if z < 0 then 45::Lib.decDigits z.natAbs else Lib.decDigits z.natAbs:=by
 unfold textI Lib.itoa
 split
 ·rfl
 ·rw [show z.toNat=z.natAbs by omega]
end Go.Sx
namespace Go.Sx
open Go
/-! ### a group is changed -/
/-! ### products -/
/-! ### a number by one group -/
end Go.Sx
