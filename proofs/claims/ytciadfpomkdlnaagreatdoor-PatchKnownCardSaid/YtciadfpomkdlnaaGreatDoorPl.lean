/- Whole numbers, plain: groups of nine digits, decimal digits, texts. -/
import Derived.Test.YtciadfpomkdlnaaGreatDoorSxA
import Derived.Lib.ParseIntB
import Derived.Test.YtciadfpomkdlnaaGreatDoorSx9
namespace Go.Sx
open Go
def valB:List Nat→Nat
 | []=>0
 | d::r=>d+1000000000 * valB r
def mag (n:Nat):List Nat:=if h:n=0 then [] else n % 1000000000::mag (n / 1000000000)
termination_by n
decreasing_by omega
theorem Zas:mag 0=[]:=by rw [mag,dif_pos rfl]
theorem Zd8 {n:Nat} (h:n≠0):mag n=n % 1000000000::mag (n / 1000000000):=by rw [mag,dif_neg h]
theorem Zqi {p:Nat→Prop} (h0:p 0) (h1:∀ n,n≠0→p (n / 1000000000)→p n) (n:Nat):p n:=by
 induction n using Nat.strongRecOn with
 | _ n ih =>
  by_cases h:n=0
  ·subst h;exact h0
  ·exact h1 n h (ih _ (by omega))
theorem Zbn (n:Nat):valB (mag n)=n:=by
 induction n using Zqi with
 | h0=>rw [Zas];rfl
 | h1 n h ih=>rw [Zd8 h,valB,ih];omega
theorem Zbj (n:Nat):∀ d∈mag n,d < 1000000000:=by
 induction n using Zqi with
 | h0=>rw [Zas];intro d hd;cases hd
 | h1 n h ih =>
  rw [Zd8 h]
  intro d hd
  rcases List.mem_cons.1 hd with rfl|hd
  ·omega
  ·exact ih d hd
theorem Z2l {n:Nat}:mag n=[]↔n=0:=by
 constructor
 ·intro h
  have:=Zbn n
  rw [h] at this
  exact this.symm
 ·rintro rfl;exact Zas
theorem Zr3 {n:Nat}:(mag n).length=0↔n=0:=by rw [List.length_eq_zero_iff,Z2l]
def trimL:List Nat→List Nat
 | []=>[]
 | d::r=>match trimL r with
  | []=>if d=0 then [] else [d]
  | x::s=>d::x::s
theorem Zgt:∀ {xs:List Nat},(∀ d∈xs,d < 1000000000)→trimL xs=mag (valB xs)
 | [],_=>by rw [valB,Zas];rfl
 | d :: r,h=>by
  have ih:=Zgt (xs:=r) fun x hx=>h x (List.mem_cons_of_mem _ hx)
  have hd:=h d (List.mem_cons_self ..)
  rw [trimL,ih,valB]
  by_cases hv:valB r=0
  ·rw [hv,Zas]
   by_cases h0:d=0
   ·subst h0;rw [Zas];rfl
   ·simp only [if_neg h0,Nat.mul_zero,Nat.add_zero]
    rw [Zd8 h0,Nat.mod_eq_of_lt hd,Nat.div_eq_of_lt hd,Zas]
  ·have h1:mag (d+1000000000 * valB r)=d::mag (valB r):=by
    rw [Zd8 (by omega)]
    rw [show (d+1000000000 * valB r) % 1000000000=d by omega,show (d+1000000000 * valB r) / 1000000000=valB r by omega]
   rw [h1]
   cases hm:mag (valB r) with
   | nil=>exact absurd (Z2l.1 hm) hv
   | cons x s=>rfl
theorem Zfl:∀ {xs:List Nat},trimL (xs++[0])=trimL xs
 | []=>rfl
 | d::r=>by rw [List.cons_append,trimL,Zfl (xs:=r),trimL]
theorem Zdi {y:Nat} (hy:y≠0):∀ {xs:List Nat},trimL (xs++[y])=xs++[y]
 | []=>by simp [trimL,hy]
 | d::r=>by
  rw [List.cons_append,trimL,Zdi hy (xs:=r)]
  cases r<;>rfl
theorem Zct:∀ {xs ys:List Nat},valB (xs++ys)=valB xs+1000000000 ^ xs.length * valB ys
 | [],ys=>by simp [valB]
 | d::r,ys=>by
  rw [List.cons_append,valB,Zct (xs:=r),valB,List.length_cons,Nat.pow_succ,Nat.mul_add,Nat.mul_comm (1000000000 ^ r.length) 1000000000,Nat.mul_assoc]
  omega
theorem Zej:∀ {xs:List Nat},(∀ d∈xs,d < 1000000000)→valB xs < 1000000000 ^ xs.length
 | [],_=>by simp [valB]
 | d::r,h=>by
  have ih:=Zej (xs:=r) fun x hx=>h x (List.mem_cons_of_mem _ hx)
  have hd:=h d (List.mem_cons_self ..)
  rw [valB,List.length_cons,Nat.pow_succ]
  omega
theorem Za4 {xs:List Nat} {i d:Nat} (h:xs[i]?=some d):valB (xs.take (i+1))=valB (xs.take i)+1000000000 ^ i * d:=by
 have hi:=(List.getElem?_eq_some_iff.1 h).1
 rw [List.take_succ_eq_append_getElem hi,Zct,(List.getElem?_eq_some_iff.1 h).2]
 simp only [List.length_take,Nat.min_eq_left (Nat.le_of_lt hi),valB,Nat.mul_zero,Nat.add_zero]
theorem Zr4 (n:Nat):∀ i,(mag n).drop i=mag (n / 1000000000 ^ i)
 | 0=>by simp
 | i+1=>by
  have ih:=Zr4 n i
  rw [← List.drop_drop,ih,Nat.pow_succ,← Nat.div_div_eq_div_mul]
  by_cases h:n / 1000000000 ^ i=0
  ·rw [h,Zas];simp
  ·rw [Zd8 h];rfl
theorem Zci {n i d:Nat} (h:(mag n)[i]?=some d):n / 1000000000 ^ i=d+1000000000 * (n / 1000000000 ^ (i+1))∧n / 1000000000 ^ i≠0∧d < 1000000000:=by
 have h1:(mag (n / 1000000000 ^ i))[0]?=some d:=by rw [← Zr4,List.getElem?_drop,Nat.add_zero,h]
 have h0:n / 1000000000 ^ i≠0:=fun h0=>by rw [h0,Zas] at h1;cases h1
 rw [Zd8 h0] at h1
 simp only [List.getElem?_cons_zero,Option.some.injEq] at h1
 have h2:n / 1000000000 ^ (i+1)=n / 1000000000 ^ i / 1000000000:=by rw [Nat.pow_succ,Nat.div_div_eq_div_mul]
 refine ⟨?_,h0,by omega⟩
 rw [h2];omega
theorem Zak (n:Nat):n < 1000000000 ^ (mag n).length:=by
 have:=Zej (Zbj n)
 rwa [Zbn] at this
theorem Zcy {n:Nat} (h:n≠0):1000000000 ^ ((mag n).length - 1)≤n:=by
 induction n using Zqi with
 | h0=>exact absurd rfl h
 | h1 n h ih =>
  rw [Zd8 h,List.length_cons,Nat.add_sub_cancel]
  by_cases h1:n / 1000000000=0
  ·rw [h1,Zas];simp;omega
  ·have h2:=ih h1
   have h3:(mag (n / 1000000000)).length≠0:=fun h=>h1 (Zr3.1 h)
   have e:(mag (n / 1000000000)).length=(mag (n / 1000000000)).length - 1+1:=by omega
   rw [e,Nat.pow_succ]
   omega
theorem Zag {a b:Nat} (h:a≤b):(mag a).length≤(mag b).length:=by
 by_cases ha:a=0
 ·subst ha;rw [Zas];exact Nat.zero_le _
 ·have h1:=Zcy ha
  have h2:=Zak b
  rcases Nat.lt_or_ge (mag b).length (mag a).length with h3|h3
  ·have h4:=Nat.pow_le_pow_right (n:=1000000000) (by omega) (show (mag b).length≤(mag a).length - 1 by omega)
   omega
  ·exact h3
theorem Zwa {l:List Nat} (h:∀ d∈l,d < 1000000000) (hp:l=[]∨1000000000 ^ (l.length - 1)≤valB l):l=mag (valB l):=by
 rw [← Zgt h]
 rcases hp with rfl|hp
 ·rfl
 rcases List.eq_nil_or_concat l with rfl|⟨xs,y,rfl⟩
 ·rfl
 ·by_cases hy:y=0
  ·subst hy
   rw [List.concat_eq_append] at hp h
   have h1:=Zej (xs:=xs) fun d hd=>h d (List.mem_append_left _ hd)
   rw [Zct] at hp
   simp only [valB,Nat.mul_zero,Nat.add_zero,List.length_append,List.length_cons,List.length_nil,Nat.add_sub_cancel] at hp
   omega
  ·rw [List.concat_eq_append,Zdi hy]

/-! decimal digits -/
def dig (c:UInt8):Nat:=c.toNat - 48
def isDig (c:UInt8):Bool:=decide (48≤c.toNat)&&decide (c.toNat≤57)
theorem Zhd {c:UInt8}:isDig c=true↔48≤c.toNat∧c.toNat≤57:=by simp [isDig]
def numOf (l:List UInt8):Nat:=l.foldl (fun n c=>n * 10+dig c) 0
theorem Zv4:numOf []=0:=rfl
theorem Zbx {l:List UInt8} {c:UInt8}:numOf (l++[c])=numOf l * 10+dig c:=by simp [numOf]
theorem Zj6:∀ (b:List UInt8) (n:Nat),b.foldl (fun n c=>n * 10+dig c) n=n * 10 ^ b.length+numOf b
 | [],n=>by simp [numOf]
 | c::b,n=>by
  have h1:=Zj6 b (n * 10+dig c)
  have h2:=Zj6 b (0 * 10+dig c)
  have h3:numOf (c::b)=b.foldl (fun n c=>n * 10+dig c) (0 * 10+dig c):=rfl
  rw [List.foldl_cons,h1,h3,h2,List.length_cons,Nat.pow_succ,Nat.add_mul,Nat.mul_assoc,Nat.mul_comm 10 (10 ^ b.length)]
  simp only [Nat.zero_mul,Nat.zero_add]
  omega
theorem Zbf {a b:List UInt8}:numOf (a++b)=numOf a * 10 ^ b.length+numOf b:=by
 rw [numOf,List.foldl_append,Zj6];rfl
theorem Zw0 {c:UInt8} (h:isDig c=true):dig c < 10:=by
 rw [Zhd] at h;unfold dig;omega
theorem Zcf:∀ {l:List UInt8},(∀ c∈l,isDig c=true)→numOf l < 10 ^ l.length:=by
 intro l
 induction l with
 | nil=>intro _;simp [numOf]
 | cons c l ih =>
  intro h
  have h1:=ih fun x hx=>h x (List.mem_cons_of_mem _ hx)
  have h2:=Zw0 (h c (List.mem_cons_self ..))
  have h3:=Zbf (a:=[c]) (b:=l)
  have h4:numOf [c]=dig c:=by simp [numOf]
  rw [List.singleton_append,h4] at h3
  rw [h3,List.length_cons,Nat.pow_succ]
  have h5:=Nat.mul_le_mul_right (10 ^ l.length) (show dig c≤9 by omega)
  omega
def grp (l:List UInt8):List Nat:=if h:l.length≤9 then [numOf l] else numOf (l.drop (l.length - 9))::grp (l.take (l.length - 9))
termination_by l.length
decreasing_by simp;omega
theorem Zsa {l:List UInt8} (h:l.length≤9):grp l=[numOf l]:=by rw [grp,dif_pos h]
theorem Zwo {l:List UInt8} (h:¬ l.length≤9):grp l=numOf (l.drop (l.length - 9))::grp (l.take (l.length - 9)):=by rw [grp,dif_neg h]
theorem Zr9 (k:Nat):∀ {l:List UInt8},l.length≤k→(∀ c∈l,isDig c=true)→valB (grp l)=numOf l∧∀ d∈grp l,d < 1000000000:=by
 induction k with
 | zero =>
  intro l hl _
  have:l=[]:=List.length_eq_zero_iff.1 (by omega)
  subst this
  rw [Zsa (by simp)]
  simp [valB,numOf]
 | succ k ih =>
  intro l hl hd
  by_cases h:l.length≤9
  ·rw [Zsa h]
   have h1:=Zcf hd
   have h2:=Nat.pow_le_pow_right (n:=10) (by omega) h
   refine ⟨by simp [valB],fun d hm=>?_⟩
   rw [List.mem_singleton.1 hm]
   omega
  ·rw [Zwo h]
   obtain ⟨h1,h2⟩:=ih (l:=l.take (l.length - 9)) (by simp;omega) fun c hc=>hd c (List.mem_of_mem_take hc)
   have hld:(l.drop (l.length - 9)).length=9:=by simp;omega
   have h3:=Zcf (l:=l.drop (l.length - 9)) fun c hc=>hd c (List.mem_of_mem_drop hc)
   rw [hld] at h3
   refine ⟨?_,fun d hm=>?_⟩
   ·have h4:=Zbf (a:=l.take (l.length - 9)) (b:=l.drop (l.length - 9))
    rw [List.take_append_drop,hld] at h4
    rw [valB,h1,h4]
    omega
   ·rcases List.mem_cons.1 hm with rfl|hm
    ·omega
    ·exact h2 d hm
theorem Zik {k:Nat} (h:k < 10):dig (UInt8.ofNat (48+k))=k∧isDig (UInt8.ofNat (48+k))=true∧(UInt8.ofNat (48+k)).toNat=48+k:=by
 have:(UInt8.ofNat (48+k)).toNat=48+k:=by simp;omega
 refine ⟨by rw [dig,this];omega,by rw [Zhd,this];omega,this⟩
theorem Zbs {n:Nat} (h:n < 10):Lib.decDigits n=[UInt8.ofNat (48+n)]:=Lib.decDigits_one h
theorem Zh4 {n:Nat} (h:¬ n < 10):Lib.decDigits n=Lib.decDigits (n / 10)++[UInt8.ofNat (48+n % 10)]:=by rw [Lib.decDigits,dif_neg h]
theorem Zqt {p:Nat→Prop} (h0:∀ n,n < 10→p n) (h1:∀ n,¬ n < 10→p (n / 10)→p n) (n:Nat):p n:=by
 induction n using Nat.strongRecOn with
 | _ n ih =>
  by_cases h:n < 10
  ·exact h0 n h
  ·exact h1 n h (ih _ (by omega))
theorem Ze9 (n:Nat):numOf (Lib.decDigits n)=n:=by
 induction n using Zqt with
 | h0 n h=>rw [Zbs h];show 0 * 10+dig _=n;rw [(Zik h).1];omega
 | h1 n h ih=>rw [Zh4 h,Zbx,ih,(Zik (show n % 10 < 10 by omega)).1];omega
theorem Zep (n:Nat):∀ c∈Lib.decDigits n,isDig c=true:=by
 induction n using Zqt with
 | h0 n h =>
  rw [Zbs h]
  intro c hc
  rw [List.mem_singleton.1 hc];exact (Zik h).2.1
 | h1 n h ih =>
  rw [Zh4 h]
  intro c hc
  rcases List.mem_append.1 hc with hc|hc
  ·exact ih c hc
  ·rw [List.mem_singleton.1 hc];exact (Zik (show n % 10 < 10 by omega)).2.1
theorem Zaw (n:Nat):(Lib.decDigits n).length=Lib.nDigits n:=Lib.decDigits_length n
theorem Zba (n:Nat):0 < Lib.nDigits n:=by
 by_cases h:n < 10
 ·rw [Lib.nDigits_small h];decide
 ·rw [Lib.nDigits_big h];omega
theorem Zhl {n:Nat} (h0:n≠0):∃ c r,Lib.decDigits n=c::r∧c.toNat≠48:=by
 induction n using Zqt with
 | h0 n h=>exact ⟨_,[],Zbs h,by rw [(Zik h).2.2];omega⟩
 | h1 n h ih =>
  obtain ⟨c,r,h1,h2⟩:=ih (by omega)
  exact ⟨c,r++[_],by rw [Zh4 h,h1];rfl,h2⟩
def pad:Nat→Nat→List UInt8
 | 0,_=>[]
 | k+1,r=>pad k (r / 10)++[UInt8.ofNat (48+r % 10)]
theorem Zrw:∀ k,pad k 0=List.replicate k 48
 | 0=>rfl
 | k+1=>by rw [pad,Zrw k,List.replicate_succ'];rfl
theorem Zv0:∀ {k r:Nat},Lib.nDigits r≤k→pad k r=List.replicate (k - Lib.nDigits r) 48++Lib.decDigits r
 | 0,r,h=>by have:=Zba r;omega
 | k + 1,r,h=>by
  rw [pad]
  by_cases h1:r < 10
  ·rw [Lib.nDigits_small h1,Zbs h1,show r / 10=0 by omega,Zrw,show r % 10=r by omega];rfl
  ·rw [Lib.nDigits_big h1] at h ⊢
   rw [Zv0 (by omega),Zh4 h1,List.append_assoc,show k+1 - (Lib.nDigits (r / 10)+1)=k - Lib.nDigits (r / 10) by omega]
theorem Zou {q:Nat} (hq:0 < q):∀ {k r:Nat},r < 10 ^ k→Lib.decDigits (q * 10 ^ k+r)=Lib.decDigits q++pad k r
 | 0,r,h=>by
  have:r=0:=by simpa using h
  subst this;simp [pad]
 | k + 1,r,h=>by
  have hp:0 < 10 ^ k:=Nat.pow_pos (by omega)
  have hqk:=Nat.mul_pos hq hp
  rw [Nat.pow_succ] at h
  have e1:q * 10 ^ (k+1)=q * 10 ^ k * 10:=by rw [Nat.pow_succ,Nat.mul_assoc]
  have e2:(q * 10 ^ (k+1)+r) / 10=q * 10 ^ k+r / 10:=by rw [e1];omega
  have e3:(q * 10 ^ (k+1)+r) % 10=r % 10:=by rw [e1];omega
  have h2:¬ q * 10 ^ (k+1)+r < 10:=by
   rw [e1]
   omega
  rw [Zh4 h2,e2,e3,Zou hq (by omega),pad,List.append_assoc]
theorem Zbi {k:Nat}:∀ {r:Nat},r < 10 ^ (k+1)→Lib.nDigits r≤k+1:=by
 induction k with
 | zero=>intro r h;rw [Lib.nDigits_small (by simpa using h)];exact Nat.le_refl _
 | succ k ih =>
  intro r h
  by_cases h1:r < 10
  ·rw [Lib.nDigits_small h1];omega
  ·rw [Lib.nDigits_big h1]
   rw [Nat.pow_succ] at h
   have:=ih (r:=r / 10) (by omega)
   omega
theorem Zj9 {q d:Nat} (hq:q≠0) (hd:d < 1000000000):Lib.decDigits (d+1000000000 * q)=Lib.decDigits q++(List.replicate (9 - Lib.nDigits d) 48++Lib.decDigits d):=by
 have h:=Zou (q:=q) (by omega) (k:=9) (r:=d) (by simpa using hd)
 rw [show q * 10 ^ 9+d=d+1000000000 * q by omega] at h
 rw [h,Zv0 (Zbi (k:=8) (by simpa using hd))]
theorem Zmx {q d:Nat} (hq:q≠0) (hd:d < 1000000000):Lib.nDigits (d+1000000000 * q)=Lib.nDigits q+9:=by
 have h:=congrArg List.length (Zj9 hq hd)
 have h1:=Zbi (k:=8) (r:=d) (by simpa using hd)
 simp only [List.length_append,List.length_replicate,Zaw] at h
 omega
theorem Zb2 {n:Nat}:∀ i,n / 1000000000 ^ i≠0→Lib.nDigits n=9 * i+Lib.nDigits (n / 1000000000 ^ i)
 | 0,_=>by simp
 | i+1,h=>by
  have e:n / 1000000000 ^ (i+1)=n / 1000000000 ^ i / 1000000000:=by rw [Nat.pow_succ,Nat.div_div_eq_div_mul]
  rw [e] at h ⊢
  rw [Zb2 i (by omega)]
  have:=Zmx (q:=n / 1000000000 ^ i / 1000000000) (d:=n / 1000000000 ^ i % 1000000000) h (by omega)
  rw [show n / 1000000000 ^ i % 1000000000+1000000000 * (n / 1000000000 ^ i / 1000000000)=n / 1000000000 ^ i by omega] at this
  omega

/-! texts of whole numbers -/
def textI (z:Int):List UInt8:=Lib.itoa z
def readW (s:List UInt8):Option Int :=
 if Lib.hasPrefix s [45] then
  if 0 < (s.drop 1).length∧(s.drop 1).length≤600∧(∀ c∈s.drop 1,isDig c=true)∧(s.drop 1)[0]?≠some 48 then some (-(numOf (s.drop 1):Int)) else none
 else if 0 < s.length∧s.length≤600∧(∀ c∈s,isDig c=true)∧(s[0]?=some 48→s.length=1) then some (numOf s:Int) else none
theorem Zg0 {s l:List UInt8} {neg:Bool} (hn:Lib.hasPrefix s [45]=neg) (hl:Lib.trimPrefix s [45]=l) :
  readW s=if 0 < l.length∧l.length≤600∧(∀ c∈l,isDig c=true)∧(l[0]?=some 48→neg=false∧l.length=1) then some (if neg then -(numOf l:Int) else (numOf l:Int)) else none:=by
 subst hn hl
 unfold readW Lib.trimPrefix
 cases Lib.hasPrefix s [45]<;>simp
theorem Zee {l:List UInt8} (hd:∀ c∈l,isDig c=true) (h0:0 < l.length) (h:l[0]?≠some 48):0 < numOf l:=by
 cases l with
 | nil=>simp at h0
 | cons c l =>
  have h1:=Zbf (a:=[c]) (b:=l)
  rw [List.singleton_append] at h1
  have h2:=Zhd.1 (hd c (List.mem_cons_self ..))
  have h3:c.toNat≠48:=fun h3=>h (by
   have:c=48:=by apply UInt8.toNat_inj.1;rw [h3];rfl
   simp [this])
  have h4:numOf [c]=dig c:=by simp [numOf]
  have h5:1≤dig c:=by unfold dig;omega
  have h6:0 < 10 ^ l.length:=Nat.pow_pos (by omega)
  have h7:=Nat.mul_le_mul_right (10 ^ l.length) h5
  rw [h1,h4];omega
def outW (z:Int):List UInt8 × Int:=if 600 < Lib.nDigits z.natAbs then ([],6) else (textI z,0)
end Go.Sx
namespace Go.Sx
open Go
theorem Zn6 {X P c A B g c' d e:Nat} (h:X+P * c=A+B) (hd:g+1000000000 * c'=d+c+e):X+P * g+P * 1000000000 * c'=A+P * d+(B+P * e):=by
 have h1:P * (g+1000000000 * c')=P * (d+c+e):=by rw [hd]
 rw [Nat.mul_add,Nat.mul_add,Nat.mul_add,← Nat.mul_assoc] at h1
 omega
theorem Zts {X P c A B g c' d e:Nat} (h:X+B=A+P * c) (hd:g+c+e=d+1000000000 * c'):X+P * g+(B+P * e)=A+P * d+P * 1000000000 * c':=by
 have h1:P * (g+c+e)=P * (d+1000000000 * c'):=by rw [hd]
 rw [Nat.mul_add,Nat.mul_add,Nat.mul_add,← Nat.mul_assoc] at h1
 omega
theorem Zjk {xs:List Nat} {d:Nat}:valB (xs++[d])=valB xs+1000000000 ^ xs.length * d:=by
 rw [Zct];simp [valB]
theorem Zat {xs:List Nat} {i:Nat} (h:xs.length≤i):valB (xs.take i)=valB xs:=by rw [List.take_of_length_le h]
theorem Zhr {xs:List Nat} {d:Nat} (h:∀ x∈xs,x < 1000000000) (hd:d < 1000000000):∀ x∈xs++[d],x < 1000000000:=fun x hx=>by
 rcases List.mem_append.1 hx with hx|hx
 ·exact h x hx
 ·rw [List.mem_singleton.1 hx];exact hd
theorem Zbh {xs:List Nat} {i d:Nat} (h:∀ x∈xs,x < 1000000000) (hd:d < 1000000000):∀ x∈xs.set i d,x < 1000000000:=fun x hx=>by
 rcases List.mem_or_eq_of_mem_set hx with hx|rfl
 ·exact h x hx
 ·exact hd
theorem Zy2 {a b:Nat} {xs:List Nat} (hs:∀ x∈xs,x < 1000000000) (hl:xs.length=(mag a).length) (hv:valB xs=a+b) (hb:(mag b).length≤(mag a).length):xs=mag (a+b):=by
 rw [← hv]
 refine Zwa hs ?_
 by_cases h0:a=0
 ·subst h0
  rw [Zas] at hl
  exact .inl (List.length_eq_zero_iff.1 hl)
 ·have:=Zcy h0
  right
  rw [hl,hv];omega
theorem Zy1 {a b:Nat} {xs:List Nat} (hs:∀ x∈xs,x < 1000000000) (_hl:xs.length=(mag a).length) (hv:valB xs+1000000000 ^ xs.length=a+b):xs++[1]=mag (a+b):=by
 have h1:valB (xs++[1])=a+b:=by rw [Zjk,Nat.mul_one];exact hv
 rw [← h1]
 refine Zwa (Zhr hs (by decide)) (.inr ?_)
 rw [h1,List.length_append,List.length_singleton,Nat.add_sub_cancel,← hv]
 omega
theorem Zw7 {a b:Nat} (h:(mag a).length < (mag b).length):a < b:=by
 have h1:=Zak a
 have hb:b≠0:=fun h0=>by subst h0;rw [Zas] at h;simp at h
 have h2:=Zcy hb
 have h3:=Nat.pow_le_pow_right (n:=1000000000) (by omega) (show (mag a).length≤(mag b).length - 1 by omega)
 omega
theorem Zoy {a b i d e:Nat} (h:a / 1000000000 ^ (i+1)=b / 1000000000 ^ (i+1)) (ha:a / 1000000000 ^ i=d+1000000000 * (a / 1000000000 ^ (i+1))) (hb:b / 1000000000 ^ i=e+1000000000 * (b / 1000000000 ^ (i+1))) (hde:d < e):a < b:=by
 rcases Nat.lt_or_ge a b with h1|h1
 ·exact h1
 ·have:=Nat.div_le_div_right (c:=1000000000 ^ i) h1
  omega
theorem Zj3 {n k:Nat} (h:n < 10 ^ k):(mag n).length≤k:=by
 by_cases h0:n=0
 ·subst h0;rw [Zas];exact Nat.zero_le _
 ·have h1:=Zcy h0
  have h2:10 ^ ((mag n).length - 1)≤1000000000 ^ ((mag n).length - 1):=Nat.pow_le_pow_left (by omega) _
  rcases Nat.lt_or_ge k (mag n).length with h3|h3
  ·have h4:=Nat.pow_le_pow_right (n:=10) (by omega) (show k≤(mag n).length - 1 by omega)
   omega
  ·exact h3
theorem Zmo {s:List UInt8} {z:Int} (h:readW s=some z):z.natAbs < 10 ^ 600:=by
 rw [Zg0 rfl rfl] at h
 split at h
 ·rename_i hc
  have h1:=Zcf hc.2.2.1
  have h2:=Nat.pow_le_pow_right (n:=10) (by omega) hc.2.1
  have h3:=Option.some.inj h
  have h4:z.natAbs=numOf (Lib.trimPrefix s [45]):=by rw [← h3];split<;>omega
  rw [h4]
  exact Nat.lt_of_lt_of_le h1 h2
 ·cases h
theorem Zdv {s:List UInt8} {z:Int} (h:readW s=some z):(mag z.natAbs).length≤600:=Zj3 (Zmo h)
/-! texts of numbers are read back -/
theorem Zav {c:UInt8} {l:List UInt8}:Lib.hasPrefix (c::l) [45]=decide (c=45):=by
 unfold Lib.hasPrefix
 by_cases h:c=45
 ·subst h;rfl
 ·simp [List.isPrefixOf,h];exact fun h1=>h h1.symm
theorem Zdk {z:Int} (h:Lib.nDigits z.natAbs≤600):readW (textI z)=some z:=by
 have hd:=Zep z.natAbs
 have hn:=Ze9 z.natAbs
 have hlen:=Zaw z.natAbs
 have hp:=Zba z.natAbs
 have hh:∀ (P:Prop),((Lib.decDigits z.natAbs)[0]?=some 48→z.natAbs≠0→P):=fun P h0 hz=>by
  obtain ⟨c,r,h1,h2⟩:=Zhl (n:=z.natAbs) hz
  rw [h1] at h0
  simp at h0
  subst h0
  exact absurd rfl h2
 by_cases hz:z < 0
 ·have ht:textI z=45::Lib.decDigits z.natAbs:=by simp [textI,Lib.itoa,hz]
  have hc:0 < (Lib.decDigits z.natAbs).length∧(Lib.decDigits z.natAbs).length≤600∧(∀ c∈Lib.decDigits z.natAbs,isDig c=true)∧((Lib.decDigits z.natAbs)[0]?=some 48→true=false∧(Lib.decDigits z.natAbs).length=1):=⟨by omega,by omega,hd,fun h0=>hh _ h0 (by omega)⟩
  rw [ht,Zg0 (l:=Lib.decDigits z.natAbs) (neg:=true) (by rw [Zav];rfl) (by rw [Lib.trimPrefix,Zav];rfl),if_pos hc,hn]
  simp;omega
 ·have ht:textI z=Lib.decDigits z.natAbs:=by simp only [textI,Lib.itoa,if_neg hz];rw [show z.toNat=z.natAbs by omega]
  have hne:Lib.hasPrefix (Lib.decDigits z.natAbs) [45]=false:=by
   cases hl:Lib.decDigits z.natAbs with
   | nil=>rw [hl] at hlen;simp at hlen;omega
   | cons c r =>
    rw [Zav,decide_eq_false]
    rintro rfl
    have:=Zhd.1 (hd 45 (by rw [hl];exact List.mem_cons_self ..))
    have h45:(45:UInt8).toNat=45:=rfl
    omega
  have hc:0 < (Lib.decDigits z.natAbs).length∧(Lib.decDigits z.natAbs).length≤600∧(∀ c∈Lib.decDigits z.natAbs,isDig c=true)∧((Lib.decDigits z.natAbs)[0]?=some 48→false=false∧(Lib.decDigits z.natAbs).length=1):=⟨by omega,by omega,hd,fun h0=>⟨rfl,by
   by_cases h1:z.natAbs=0
   ·rw [h1,Zbs (by decide)];rfl
   ·exact hh _ h0 h1⟩⟩
  rw [ht,Zg0 (l:=Lib.decDigits z.natAbs) (neg:=false) hne (by rw [Lib.trimPrefix,hne];rfl),if_pos hc,hn]
  simp;omega
end Go.Sx
namespace Go.Sx
open Go
/-! ### a group is changed -/
theorem Zei:∀ {xs:List Nat} {k p g:Nat},xs[k]?=some p→valB (xs.set k g)+1000000000 ^ k * p=valB xs+1000000000 ^ k * g
 | [],k,p,g,h=>by simp at h
 | x::xs,0,p,g,h=>by
  simp only [List.getElem?_cons_zero,Option.some.injEq] at h
  subst h
  simp only [List.set_cons_zero,valB,Nat.pow_zero,Nat.one_mul]
  omega
 | x::xs,k+1,p,g,h=>by
  simp only [List.getElem?_cons_succ] at h
  have ih:=Zei (g:=g) h
  simp only [List.set_cons_succ,valB,Nat.pow_succ]
  rw [Nat.mul_comm (1000000000 ^ k) 1000000000,Nat.mul_assoc,Nat.mul_assoc]
  omega
theorem Zbl (xs:List Nat) (k:Nat):valB (xs.take k)+1000000000 ^ (xs.take k).length * valB (xs.drop k)=valB xs:=by
 rw [← Zct,List.take_append_drop]
theorem Zpp {xs:List Nat} {k d:Nat} (h:xs[k]?=some d):1000000000 ^ k * d≤valB xs:=by
 have h1:=Za4 h
 have h2:=Zbl xs (k+1)
 omega
theorem Zgq {xs:List Nat} {n k d:Nat} (h:valB xs < 1000000000 ^ n) (hk:n≤k) (hd:xs[k]?=some d):d=0:=by
 have h1:=Zpp hd
 have h2:=Nat.pow_le_pow_right (n:=1000000000) (by omega) hk
 rcases Nat.eq_zero_or_pos d with h3|h3
 ·exact h3
 ·have:=Nat.mul_le_mul_left (1000000000 ^ k) h3
  omega
theorem Zgr {xs:List Nat} {i d:Nat} (h:xs[i]?=some d):valB (xs.drop i)=d+1000000000 * valB (xs.drop (i+1)):=by
 obtain ⟨hi,he⟩:=List.getElem?_eq_some_iff.1 h
 rw [List.drop_eq_getElem_cons hi,he,valB]
theorem Zcd:∀ n,valB (List.replicate n 0)=0
 | 0=>rfl
 | n+1=>by rw [List.replicate_succ,valB,Zcd n]
theorem Zec (n:Nat):∀ x∈List.replicate n 0,x < 1000000000:=fun x h=>by rw [List.eq_of_mem_replicate h];decide
/-! ### products -/
theorem Zlc {V V' P c p t de A:Nat} (hs:V'+P * p=V+P * (t % 1000000000)) (ht:t=c+p+de) (hv:V+P * c=A):V'+P * 1000000000 * (t / 1000000000)=A+P * de:=by
 have h1:P * (t % 1000000000)+P * 1000000000 * (t / 1000000000)=P * t:=by
  rw [Nat.mul_assoc,← Nat.mul_add];congr 1;omega
 have h2:P * t=P * c+P * p+P * de:=by rw [ht,Nat.mul_add,Nat.mul_add]
 omega
theorem Zjy {d e c p:Nat} (hd:d < 1000000000) (he:e < 1000000000) (hc:c < 1000000000) (hp:p < 1000000000):c+p+d * e < 1000000000 * 1000000000:=by
 have h1:d * e≤999999999 * 999999999:=Nat.mul_le_mul (by omega) (by omega)
 omega
theorem Zaz (a b:Nat):(mag (a * b)).length≤(mag a).length+(mag b).length:=by
 have h1:=Zak a
 have h2:=Zak b
 by_cases h0:a * b=0
 ·rw [h0,Zas];simp
 ·have h3:=Zcy h0
  have h4:a * b < 1000000000 ^ ((mag a).length+(mag b).length):=by
   rw [Nat.pow_add]
   have hb:0 < b:=Nat.pos_of_ne_zero fun h=>h0 (by rw [h,Nat.mul_zero])
   exact Nat.lt_of_lt_of_le (Nat.mul_lt_mul_of_pos_right h1 hb) (Nat.mul_le_mul_left _ (Nat.le_of_lt h2))
  rcases Nat.lt_or_ge ((mag a).length+(mag b).length) (mag (a * b)).length with h5|h5
  ·have:=Nat.pow_le_pow_right (n:=1000000000) (by omega) (show (mag a).length+(mag b).length≤(mag (a * b)).length - 1 by omega)
   omega
  ·exact h5
theorem Zcz {n k:Nat} (h:n < 1000000000 ^ k):(mag n).length≤k:=by
 by_cases h0:n=0
 ·rw [h0,Zas];simp
 ·have h1:=Zcy h0
  rcases Nat.lt_or_ge k (mag n).length with h2|h2
  ·have:=Nat.pow_le_pow_right (n:=1000000000) (by omega) (show k≤(mag n).length - 1 by omega)
   omega
  ·exact h2
/-! ### a number by one group -/
theorem Zta {Q d r M g cur:Nat} (hv:Q * d+r=M) (hc:cur=r * 1000000000+g):(cur / d+1000000000 * Q) * d+cur % d=g+1000000000 * M:=by
 have h1:=Nat.div_add_mod' cur d
 rw [Nat.add_mul,Nat.mul_assoc,← hv,Nat.mul_add]
 omega
theorem Zy8 {d r g:Nat} (hr:r < d) (hg:g < 1000000000):(r * 1000000000+g) / d < 1000000000:=by
 rw [Nat.div_lt_iff_lt_mul (by omega)]
 have:(r+1) * 1000000000≤d * 1000000000:=Nat.mul_le_mul_right _ hr
 rw [Nat.mul_comm 1000000000 d]
 omega
theorem Zh3 {a d q r:Nat} (h:q * d+r=a) (hr:r < d):a / d=q∧a % d=r:=by
 subst h
 constructor
 ·rw [Nat.mul_comm,Nat.mul_add_div (by omega),Nat.div_eq_of_lt hr,Nat.add_zero]
 ·rw [Nat.mul_comm,Nat.mul_add_mod,Nat.mod_eq_of_lt hr]
/-! ### the divisor is made great -/
theorem Zle {t:Nat} (h1:1≤t) (h2:t < 1000000000):500000000≤t * (1000000000 / (t+1))∧(t+1) * (1000000000 / (t+1))≤1000000000∧1≤1000000000 / (t+1):=by
 have hs:1≤1000000000 / (t+1):=by rw [Nat.le_div_iff_mul_le (by omega)];omega
 have hm:=Nat.div_add_mod 1000000000 (t+1)
 have hl:=Nat.mod_lt 1000000000 (show 0 < t+1 by omega)
 generalize 1000000000 / (t+1)=s at hs hm ⊢
 obtain ⟨s',rfl⟩:∃ s',s=s'+1:=⟨s - 1,by omega⟩
 obtain ⟨t',rfl⟩:∃ t',t=t'+1:=⟨t - 1,by omega⟩
 have e1:(t'+1+1) * (s'+1)=t' * s'+t'+2 * s'+2:=by grind
 have e2:(t'+1) * (s'+1)=t' * s'+t'+s'+1:=by grind
 refine ⟨?_,?_,hs⟩
 ·rw [e2];rw [e1] at hm;omega
 ·omega
theorem Zu8 {b t l:Nat} (h1:1≤t) (h2:t < 1000000000) (hlo:t * 1000000000 ^ l≤b) (hhi:b < (t+1) * 1000000000 ^ l) :
  500000000 * 1000000000 ^ l≤b * (1000000000 / (t+1))∧b * (1000000000 / (t+1)) < 1000000000 ^ (l+1):=by
 obtain ⟨k1,k2,k3⟩:=Zle h1 h2
 generalize 1000000000 / (t+1)=s at k1 k2 k3 ⊢
 generalize hP:1000000000 ^ l=P at hlo hhi ⊢
 constructor
 ·calc 500000000 * P≤t * s * P:=Nat.mul_le_mul_right _ k1
   _=t * P * s:=by rw [Nat.mul_right_comm]
   _≤b * s:=Nat.mul_le_mul_right _ hlo
 ·rw [Nat.pow_succ,hP]
  calc b * s < (t+1) * P * s:=Nat.mul_lt_mul_of_pos_right hhi k3
   _=(t+1) * s * P:=by rw [Nat.mul_right_comm]
   _≤1000000000 * P:=Nat.mul_le_mul_right _ k2
   _=P * 1000000000:=Nat.mul_comm _ _
/-! ### one group of a quotient: the first two groups tell it, but for little -/
section
variable {B K v1 v2 v' h u2 w' q r V W:Nat}
theorem Zzj (hv1:0 < v1) (hV:V=(v1 * B+v2) * K+v') (hW:W=(h * B+u2) * K+w') (hw:w' < K) (hu2:u2 < B) (_hB:0 < B):W / V≤h / v1:=by
 have hK:0 < K:=by omega
 rw [Nat.le_div_iff_mul_le hv1]
 have hd:W / V * V≤W:=Nat.div_mul_le_self W V
 generalize W / V=t at hd ⊢
 apply Nat.le_of_lt_succ
 have h1:t * v1 * (B * K) < (h+1) * (B * K):=by
  calc t * v1 * (B * K)=t * (v1 * B * K):=by rw [Nat.mul_assoc,Nat.mul_assoc]
   _≤t * V:=Nat.mul_le_mul_left _ (by rw [hV,Nat.add_mul];omega)
   _≤W:=hd
   _ < (h * B+u2) * K+K:=by omega
   _=(h * B+u2+1) * K:=by rw [Nat.add_mul _ 1 K,Nat.one_mul]
   _≤(h * B+B) * K:=Nat.mul_le_mul_right _ (by omega)
   _=(h+1) * (B * K):=by rw [← Nat.succ_mul,Nat.mul_assoc]
 exact Nat.lt_of_mul_lt_mul_right h1
theorem Z15 (hV:V=(v1 * B+v2) * K+v') (hW:W=(h * B+u2) * K+w') (hw:w' < K) (hq:q * v1+r=h) (hgt:r * B+u2 < q * v2):W / V < q:=by
 apply Nat.div_lt_of_lt_mul
 have h1:h * B+u2+1≤q * (v1 * B+v2):=by
  have:q * (v1 * B+v2)=q * v1 * B+q * v2:=by rw [Nat.mul_add,Nat.mul_assoc]
  rw [this,← hq,Nat.add_mul]
  omega
 calc W < (h * B+u2) * K+K:=by omega
  _=(h * B+u2+1) * K:=by rw [Nat.add_mul _ 1 K,Nat.one_mul]
  _≤q * (v1 * B+v2) * K:=Nat.mul_le_mul_right _ h1
  _=(v1 * B+v2) * K * q:=by rw [Nat.mul_assoc,Nat.mul_comm]
  _≤V * q:=Nat.mul_le_mul_right _ (by omega)
theorem Zzk (hv1:0 < v1) (hV:V=(v1 * B+v2) * K+v') (hv:v' < K) (hW:W=(h * B+u2) * K+w') (hq:q * v1+r=h) (hqB:q < B) (hle:q * v2≤r * B+u2):q≤W / V+1:=by
 have hVB:B * K≤V:=by
  have:1 * (B * K)≤v1 * (B * K):=Nat.mul_le_mul_right _ hv1
  rw [hV,Nat.add_mul]
  rw [← Nat.mul_assoc v1] at this
  omega
 have hK:0 < K:=by omega
 have hV0:0 < V:=Nat.lt_of_lt_of_le (Nat.mul_pos (by omega) hK) hVB
 have h1:q * V≤W+q * K:=by
  calc q * V≤q * ((v1 * B+v2+1) * K):=Nat.mul_le_mul_left _ (by rw [hV,Nat.add_mul _ 1 K];omega)
   _=(q * v1 * B+q * v2+q) * K:=by rw [← Nat.mul_assoc];congr 1;rw [Nat.mul_add,Nat.mul_add,Nat.mul_assoc,Nat.mul_one]
   _≤(h * B+u2+q) * K:=Nat.mul_le_mul_right _ (by rw [← hq,Nat.add_mul];omega)
   _=(h * B+u2) * K+q * K:=Nat.add_mul _ _ _
   _≤W+q * K:=by omega
 have h2:q * K < V:=Nat.lt_of_lt_of_le (Nat.mul_lt_mul_of_pos_right hqB hK) hVB
 have h3:W < (W / V+1) * V:=by rw [Nat.mul_comm];exact Nat.lt_mul_div_succ W hV0
 have h4:q * V < (W / V+2) * V:=by
  have:(W / V+2) * V=(W / V+1) * V+V:=Nat.succ_mul _ _
  omega
 have:=Nat.lt_of_mul_lt_mul_right h4
 omega
theorem Zzh (hV0:0 < V) (hV:V=(v1 * B+v2) * K+v') (hv:v' < K) (hv2:v2 < B) (hW:W=(h * B+u2) * K+w') (hq:q * v1+r=h) (hqB:q≤B) (hr:B≤r):q≤W / V:=by
 rw [Nat.le_div_iff_mul_le hV0]
 calc q * V≤q * ((v1 * B+v2+1) * K):=Nat.mul_le_mul_left _ (by rw [hV,Nat.add_mul _ 1 K];omega)
  _=(q * v1 * B+q * (v2+1)) * K:=by rw [← Nat.mul_assoc];congr 1;rw [Nat.add_assoc,Nat.mul_add,Nat.mul_assoc]
  _ ≤ (h * B) * K:=Nat.mul_le_mul_right _ (by
    have h1:q * (v2+1)≤B * B:=Nat.mul_le_mul hqB hv2
    have h2:B * B≤r * B:=Nat.mul_le_mul_right _ hr
    rw [← hq,Nat.add_mul];omega)
  _≤W:=by rw [hW,Nat.add_mul];omega
theorem Zvp {u0 u1:Nat} (h1:u0 * B+u1=h) (hu1:u1 < B) (hv2:v2 < B) (hv:v' < K) (hV:V=(v1 * B+v2) * K+v') (hW:W=(h * B+u2) * K+w') (hlt:W < B * V) (hb:B≤2 * v1) (_hB:0 < B):h / v1≤B+1:=by
 have hK:0 < K:=by omega
 have hv1:0 < v1:=by omega
 have h2 : u0≤v1:=by
  apply Nat.le_of_lt_succ
  have:u0 * (B * B * K) < (v1+1) * (B * B * K):=by
   calc u0 * (B * B * K)=u0 * B * (B * K):=by simp only [Nat.mul_assoc]
    _≤h * (B * K):=Nat.mul_le_mul_right _ (by omega)
    _=h * B * K:=by rw [Nat.mul_assoc]
    _≤W:=by rw [hW,Nat.add_mul];omega
    _ < B * V:=hlt
    _ ≤ B * ((v1 * B+B) * K):=Nat.mul_le_mul_left _ (by
      have:(v1 * B+v2+1) * K≤(v1 * B+B) * K:=Nat.mul_le_mul_right _ (by omega)
      rw [hV];rw [Nat.add_mul _ 1 K] at this;omega)
    _=(v1+1) * (B * B * K):=by rw [← Nat.succ_mul,← Nat.mul_assoc,← Nat.mul_assoc,Nat.mul_comm B,Nat.mul_assoc (v1.succ),Nat.mul_assoc v1.succ]
  exact Nat.lt_of_mul_lt_mul_right this
 apply Nat.le_of_lt_succ
 rw [Nat.div_lt_iff_lt_mul hv1]
 have h3:u0 * B≤v1 * B:=Nat.mul_le_mul_right _ h2
 have h4:(B+1).succ * v1=v1 * B+2 * v1:=by rw [Nat.succ_mul,Nat.succ_mul,Nat.mul_comm];omega
 omega
end
/-! ### it is taken away -/
theorem Zu2 {X X' P c b b' u g q d N A:Nat} (hX:X'+P * u=X+P * g) (hx:X+N=A+P * (c+b)) (h:g+(c+q * d) % 1000000000+b=u+1000000000 * b'):X'+(N+P * (q * d))=A+P * 1000000000 * ((c+q * d) / 1000000000+b'):=by
 have h1:P * g+P * ((c+q * d) % 1000000000)+P * b=P * u+P * 1000000000 * b':=by
  rw [← Nat.mul_add,← Nat.mul_add,h,Nat.mul_add,Nat.mul_assoc]
 have h2:P * ((c+q * d) % 1000000000)+P * 1000000000 * ((c+q * d) / 1000000000)=P * c+P * (q * d):=by
  rw [Nat.mul_assoc,← Nat.mul_add,Nat.mod_add_div,Nat.mul_add]
 rw [Nat.mul_add P c b] at hx
 rw [Nat.mul_add]
 omega
theorem Zxc {X X' P o o' u g d N A:Nat} (hX:X'+P * u=X+P * g) (hx:X+P * o=A+N) (h:g+1000000000 * o'=u+d+o):X'+P * 1000000000 * o'=A+(N+P * d):=by
 have h1:P * g+P * 1000000000 * o'=P * u+P * d+P * o:=by
  rw [Nat.mul_assoc,← Nat.mul_add,h,Nat.mul_add,Nat.mul_add]
 omega
/-! a part, from lo on -/
theorem Zoq {α:Type} {xs:List α} {lo i:Nat} {g:α}:(xs.set (lo+i) g).drop lo=(xs.drop lo).set i g:=by
 rw [List.drop_set]
 rw [if_neg (by omega),Nat.add_sub_cancel_left]
theorem Zgb {xs:List Nat} {lo i p g:Nat} (h:xs[lo+i]?=some p):valB ((xs.set (lo+i) g).drop lo)+1000000000 ^ i * p=valB (xs.drop lo)+1000000000 ^ i * g:=by
 rw [Zoq]
 exact Zei (by rw [List.getElem?_drop];exact h)
theorem Zs8 {xs:List Nat} {k x0 x1:Nat} (h0:xs[k]?=some x0) (h1:xs[k+1]?=some x1) (hl:xs.length=k+2):valB xs=(x1 * 1000000000+x0) * 1000000000 ^ k+valB (xs.take k):=by
 have e0:=Za4 h0
 have e1:=Za4 h1
 rw [List.take_of_length_le (by omega),e0,Nat.pow_succ] at e1
 rw [e1,Nat.add_mul,Nat.mul_comm x0,Nat.mul_comm (x1 * 1000000000),← Nat.mul_assoc,Nat.mul_comm _ x1,← Nat.mul_assoc,Nat.mul_comm x1,Nat.mul_assoc,Nat.mul_comm x1]
 omega
theorem Znv {xs:List Nat} {k x0 x1 x2:Nat} (h0:xs[k]?=some x0) (h1:xs[k+1]?=some x1) (h2:xs[k+2]?=some x2) (hz:valB (xs.drop (k+3))=0):valB xs=((x2 * 1000000000+x1) * 1000000000+x0) * 1000000000 ^ k+valB (xs.take k):=by
 have e0:=Za4 h0
 have e1:=Za4 h1
 have e2:=Za4 h2
 have e3:=Zbl xs (k+3)
 rw [hz,Nat.mul_zero,Nat.add_zero] at e3
 have p1:1000000000 ^ (k+1)=1000000000 ^ k * 1000000000:=Nat.pow_succ ..
 have p2:1000000000 ^ (k+2)=1000000000 ^ k * 1000000000 * 1000000000:=by rw [Nat.pow_succ,Nat.pow_succ]
 rw [← e3,e2,e1,e0,p1,p2]
 clear e0 e1 e2 e3 p1 p2 h0 h1 h2 hz
 generalize 1000000000 ^ k=K
 generalize valB (xs.take k)=T
 grind
theorem Zv3 {xs:List Nat} {k x0:Nat} (h0:xs[k]?=some x0) (hz:valB (xs.drop (k+1))=0):valB xs=valB (xs.take k)+1000000000 ^ k * x0:=by
 have e0:=Za4 h0
 have e3:=Zbl xs (k+1)
 rw [hz,Nat.mul_zero,Nat.add_zero] at e3
 omega
theorem Znu {xs:List Nat} {k:Nat} (h:valB xs < 1000000000 ^ k):valB (xs.drop k)=0:=by
 have e:=Zbl xs k
 rcases Nat.lt_or_ge xs.length k with h1|h1
 ·rw [List.drop_eq_nil_of_le (by omega)];rfl
 ·rw [List.length_take,Nat.min_eq_left h1] at e
  rcases Nat.eq_zero_or_pos (valB (xs.drop k)) with h2|h2
  ·exact h2
  ·have:=Nat.mul_le_mul_left (1000000000 ^ k) h2
   omega
theorem Zvo {L P u0 q V W k:Nat} (_hL:L < P) (hV:V < P) (hW:L+P * u0+q * V=W+P * k) (hk:k≤u0) (hq:W / V≤q) (hV0:0 < V):q=W / V∧L=W % V:=by
 obtain ⟨j,rfl⟩:∃ j,u0=k+j:=⟨u0 - k,by omega⟩
 rw [Nat.mul_add] at hW
 have h1:L+P * j+q * V=W:=by omega
 have h2:q≤W / V:=by rw [Nat.le_div_iff_mul_le hV0];omega
 have h3:q=W / V:=by omega
 have h4:=Nat.div_add_mod' W V
 have h5:=Nat.mod_lt W hV0
 rw [← h3] at h4
 refine ⟨h3,?_⟩
 have h6:P * j=0:=by
  rcases Nat.eq_zero_or_pos j with h|h
  ·rw [h,Nat.mul_zero]
  ·have:=Nat.mul_le_mul_left P h
   omega
 omega
theorem Zzi {L P u0 q V W k L' o:Nat} (hL:L < P) (hV:V < P) (hW:L+P * u0+q * V=W+P * k) (hk:u0 < k) (hq:q≤W / V+1) (hV0:0 < V) (ho:L'+P * o=L+V) (hL':L' < P):q=W / V+1∧L'=W % V:=by
 obtain ⟨j,rfl⟩:∃ j,k=u0+1+j:=⟨k - u0 - 1,by omega⟩
 rw [Nat.mul_add,Nat.mul_add,Nat.mul_one] at hW
 have h1:W / V < q:=by
  rw [Nat.div_lt_iff_lt_mul hV0];omega
 have h2:q=W / V+1:=by omega
 have h4:=Nat.div_add_mod' W V
 have h5:=Nat.mod_lt W hV0
 refine ⟨h2,?_⟩
 rw [h2,Nat.succ_mul] at hW
 -- W % V + P + P j = L + V = L' + P o
 have h6:W % V+P * (j+1)=L'+P * o:=by rw [Nat.mul_add,Nat.mul_one];omega
 have h7:(W % V+P * (j+1)) % P=(L'+P * o) % P:=by rw [h6]
 rw [Nat.add_mul_mod_self_left,Nat.add_mul_mod_self_left,Nat.mod_eq_of_lt hL',Nat.mod_eq_of_lt (by omega)] at h7
 exact h7.symm
theorem Zz7 {X P W V Q U0:Nat} (h:X+P * W+P * 1000000000 * (V * Q)=U0):X+P * (W % V)+P * (V * (W / V+1000000000 * Q))=U0:=by
 have h1:P * W=P * (V * (W / V))+P * (W % V):=by rw [← Nat.mul_add,Nat.div_add_mod]
 have h2:P * (V * (1000000000 * Q))=P * 1000000000 * (V * Q):=by rw [Nat.mul_left_comm V,Nat.mul_assoc]
 rw [Nat.mul_add V,Nat.mul_add P,h2]
 omega
theorem Zz8 {u V X:Nat} (hu:u < 1000000000) (h:X < V):u+1000000000 * X < 1000000000 * V:=by
 have:=Nat.mul_le_mul_left 1000000000 (show X+1≤V from h)
 omega
/-! ### roots -/
end Go.Sx
namespace Go.Sx
open Go
def signI (z:Int):Int:=if z < 0 then -1 else if z=0 then 0 else 1
def checkW (s:List UInt8):Int:=if (readW s).isSome then 0 else 10
def intW (s:List UInt8):Int × Int:=match readW s with
 | some x=>if -9223372036854775808≤x∧x≤9223372036854775807 then (x,0) else (0,6)
 | none=>(0,10)
/-! ### lengths -/
theorem Zbg {k r:Nat} (hk:0 < k) (h:r < 10 ^ k):Lib.nDigits r≤k:=by
 obtain ⟨j,rfl⟩:∃ j,k=j+1:=⟨k - 1,by omega⟩
 exact Zbi h
theorem Zmt {z:Int} (h:Lib.nDigits z.natAbs≤600):outW z=(textI z,0):=by rw [outW,if_neg (by omega)]
/-! ### signs of a quotient -/
/-! ### signs of a power -/
/-! ### integers out of texts -/
theorem Zlq {c:UInt8} {r:List UInt8}:numOf (c::r)=dig c * 10 ^ r.length+numOf r:=by
 have:=Zbf (a:=[c]) (b:=r)
 rw [List.singleton_append] at this
 rw [this]
 congr 1
 simp [numOf]
theorem Zg2:∀ (l:List UInt8) (acc:Nat),(∀ c∈l,isDig c=true)→acc≤18446744073709551615→Lib.parseUintM 18446744073709551615 acc l=if acc * 10 ^ l.length+numOf l≤18446744073709551615 then .ok (acc * 10 ^ l.length+numOf l) else .range
 | [],acc,_,h=>by simp [Lib.parseUintM,numOf,h]
 | c :: r,acc,hd,h=>by
  have hc:=Zhd.1 (hd c (List.mem_cons_self ..))
  have hp:0 < 10 ^ r.length:=Nat.pow_pos (by omega)
  have e:acc * 10 ^ (c::r).length+numOf (c::r)=(acc * 10+(c.toNat - 48)) * 10 ^ r.length+numOf r:=by
   rw [Zlq,dig,List.length_cons,Nat.pow_succ,Nat.add_mul,← Nat.mul_assoc,Nat.mul_right_comm acc]
   omega
  have hge:acc * 10+(c.toNat - 48)≤(acc * 10+(c.toNat - 48)) * 10 ^ r.length:=Nat.le_mul_of_pos_right _ hp
  rw [Lib.parseUintM,if_pos hc,e]
  by_cases h1:1844674407370955162≤acc
  ·rw [if_pos h1,if_neg (by omega)]
  ·rw [if_neg h1]
   by_cases h2:18446744073709551615 < acc * 10+(c.toNat - 48)
   ·rw [if_pos h2,if_neg (by omega)]
   ·rw [if_neg h2]
    exact Zg2 r _ (fun x hx=>hd x (List.mem_cons_of_mem _ hx)) (by omega)
theorem Zju {s:List UInt8} {z:Int} (h:readW s=some z):Lib.parseIntB 64 s=if -9223372036854775808≤z∧z≤9223372036854775807 then .ok z else .range:=by
 cases s with
 | nil=>simp [readW,Lib.hasPrefix] at h
 | cons c r =>
  unfold readW at h
  rw [Zav] at h
  unfold Lib.parseIntB
  simp only []
  have pU:∀ l:List UInt8,l≠[]→(∀ c∈l,isDig c=true)→Lib.parseUintB 64 l=if numOf l≤18446744073709551615 then .ok (numOf l) else .range:=fun l h0 h1=>by
   unfold Lib.parseUintB
   rw [if_neg h0]
   have:=Zg2 l 0 h1 (by omega)
   simpa using this
  by_cases hc:c=45
  ·subst hc
   simp only [decide_true,if_true,List.drop_succ_cons,List.drop_zero] at h
   split at h
   ·rename_i h5
    cases h
    have h45:(45:UInt8).toNat=45:=rfl
    rw [if_pos (.inr h45),pU r (by intro h0;rw [h0] at h5;simp at h5) h5.2.2.1]
    by_cases h6:numOf r≤18446744073709551615
    ·rw [if_pos h6]
     simp only [h45,not_true_eq_false,false_and,if_false,true_and]
     by_cases h7:2 ^ 63 < numOf r
     ·rw [if_pos h7,if_neg (by omega)]
     ·rw [if_neg h7]
      simp only [if_true]
      rw [if_pos (by omega)]
    ·rw [if_neg h6]
     simp only []
     rw [if_neg (by omega)]
   ·cases h
  ·simp only [hc,decide_false,Bool.false_eq_true,if_false] at h
   split at h
   ·rename_i h5
    cases h
    have hcd:=Zhd.1 (h5.2.2.1 c (List.mem_cons_self ..))
    have h45:¬ c.toNat=45:=by omega
    rw [if_neg (by omega),pU (c::r) (by simp) h5.2.2.1]
    by_cases h6:numOf (c::r)≤18446744073709551615
    ·rw [if_pos h6]
     simp only [h45,not_false_eq_true,true_and,false_and,if_false]
     by_cases h7:2 ^ 63≤numOf (c::r)
     ·rw [if_pos h7,if_neg (by omega)]
     ·rw [if_neg h7,if_pos (by omega)]
    ·rw [if_neg h6]
     simp only []
     rw [if_neg (by omega)]
   ·cases h
end Go.Sx
namespace Go.Sx
open Go
def valQ:List Nat→Nat
 | []=>0
 | d::r=>d+10000 * valQ r
def qud (n:Nat):List Nat:=if h:n=0 then [] else n % 10000::qud (n / 10000)
termination_by n
decreasing_by omega
theorem Za5:qud 0=[]:=by rw [qud,dif_pos rfl]
theorem Ze7 {n:Nat} (h:n≠0):qud n=n % 10000::qud (n / 10000):=by rw [qud,dif_neg h]
theorem Zp5 {p:Nat→Prop} (h0:p 0) (h1:∀ n,n≠0→p (n / 10000)→p n) (n:Nat):p n:=by
 induction n using Nat.strongRecOn with
 | _ n ih =>
  by_cases h:n=0
  ·subst h;exact h0
  ·exact h1 n h (ih _ (by omega))
theorem Zar (n:Nat):valQ (qud n)=n:=by
 induction n using Zp5 with
 | h0=>rw [Za5];rfl
 | h1 n h ih=>rw [Ze7 h,valQ,ih];omega
theorem Z19 {n:Nat}:qud n=[]↔n=0:=by
 constructor
 ·intro h
  have:=Zar n
  rw [h] at this
  exact this.symm
 ·rintro rfl;exact Za5
theorem Zzl {n:Nat}:(qud n).length=0↔n=0:=by rw [List.length_eq_zero_iff,Z19]
theorem Zcx {n:Nat} (h:n≠0):10000 ^ ((qud n).length - 1)≤n:=by
 induction n using Zp5 with
 | h0=>exact absurd rfl h
 | h1 n h ih =>
  rw [Ze7 h,List.length_cons,Nat.add_sub_cancel]
  by_cases h1:n / 10000=0
  ·rw [h1,Za5];simp;omega
  ·have h2:=ih h1
   have h3:(qud (n / 10000)).length≠0:=fun h=>h1 (Zzl.1 h)
   have e:(qud (n / 10000)).length=(qud (n / 10000)).length - 1+1:=by omega
   rw [e,Nat.pow_succ]
   omega
end Go.Sx
namespace Go.Sx
open Go
theorem Zhk:∀ (k:Nat) {l:List UInt8},l.length=k→(∀ c∈l,isDig c=true)→l≠[]→l[0]?≠some 48→l=Lib.decDigits (numOf l):=by
 intro k
 induction k with
 | zero=>intro l hl _ h _;exact absurd (List.length_eq_zero_iff.1 hl) h
 | succ k ih =>
  intro l hl hd hne h0
  rcases List.eq_nil_or_concat l with rfl|⟨xs,c,rfl⟩
  ·exact absurd rfl hne
  ·rw [List.concat_eq_append] at *
   have hc:=hd c (by simp)
   have hci:=Zhd.1 hc
   have hcd:UInt8.ofNat (48+dig c)=c:=by
    have:48+dig c=c.toNat:=by unfold dig;omega
    rw [this];simp
   by_cases hx:xs=[]
   ·subst hx
    have h1:numOf ([]++[c])=dig c:=by simp [numOf]
    rw [h1,Zbs (Zw0 hc),hcd];rfl
   ·have hl':xs.length=k:=by simp at hl;exact hl
    have h1:xs[0]?≠some 48:=fun h=>h0 (by rw [List.getElem?_append_left (List.length_pos_iff.2 hx)];exact h)
    have ih':=ih hl' (fun d hm=>hd d (List.mem_append_left _ hm)) hx h1
    have hp:=Zee (l:=xs) (fun d hm=>hd d (List.mem_append_left _ hm)) (List.length_pos_iff.2 hx) h1
    have hdl:=Zw0 hc
    rw [Zbx,Zh4 (by omega),show (numOf xs * 10+dig c) / 10=numOf xs by omega,show (numOf xs * 10+dig c) % 10=dig c by omega,hcd,← ih']
theorem Zb7 (z:Int):textI z=if z < 0 then 45::Lib.decDigits z.natAbs else Lib.decDigits z.natAbs:=by
 unfold textI Lib.itoa
 split
 ·rfl
 ·rw [show z.toNat=z.natAbs by omega]
end Go.Sx
namespace Go.Sx
open Go
/-! ### a group is changed -/
/-! ### products -/
theorem Za2 {n k:Nat} (h:n < 10000 ^ k):(qud n).length≤k:=by
 by_cases h0:n=0
 ·rw [h0,Za5];simp
 ·have h1:=Zcx h0
  rcases Nat.lt_or_ge k (qud n).length with h2|h2
  ·have:=Nat.pow_le_pow_right (n:=10000) (by omega) (show k≤(qud n).length - 1 by omega)
   omega
  ·exact h2
/-! ### a number by one group -/
end Go.Sx
namespace Go.Sx
open Go
structure V3 where
 x:Int
 y:Int
 z:Int
deriving DecidableEq
def V3.val (p:V3):Value:=.agg #[.int .i64 p.x,.int .i64 p.y,.int .i64 p.z]
def cV3:Cod V3:=⟨3,fun p=>[.int .i64 p.x,.int .i64 p.y,.int .i64 p.z],fun _=>rfl,fun p v hv=>by
 simp only [List.mem_cons,List.not_mem_nil,or_false] at hv
 rcases hv with rfl|rfl|rfl<;>rfl⟩
instance {p:V3}:EncL cV3 p [.int .i64 p.x,.int .i64 p.y,.int .i64 p.z]:=⟨rfl⟩
instance {a b d:Int}:DecL cV3 [.int .i64 a,.int .i64 b,.int .i64 d] ⟨a,b,d⟩:=⟨rfl⟩
def V3.ok (p:V3):Prop:=IR .i64 p.x∧IR .i64 p.y∧IR .i64 p.z

def found (o:Option Nat):Value:=.tuple #[.int .i64 ((o.getD 0:Nat):Int),.bool o.isSome]

def V3.sub (a b:V3):V3:=⟨a.x - b.x,a.y - b.y,a.z - b.z⟩
def V3.cross (a b:V3):V3:=⟨a.y * b.z - a.z * b.y,a.z * b.x - a.x * b.z,a.x * b.y - a.y * b.x⟩
def V3.zero:V3:=⟨0,0,0⟩
def ptAt (pts:List V3) (i:Int):V3:=(pts[i.toNat]?).getD V3.zero
def normal (pts:List V3) (f:V3):V3:=((ptAt pts f.y).sub (ptAt pts f.x)).cross ((ptAt pts f.z).sub (ptAt pts f.x))
def V3.in (n:Int) (p:V3):Prop:=-n≤p.x∧p.x≤n∧-n≤p.y∧p.y≤n∧-n≤p.z∧p.z≤n
/-! comparing points -/
class NG (P:Program) (t:TypeId):Prop where
 h:P.eqGuardType P.depth t=false
section
variable {P:Program} {N:Ctx} {w0:World} {e:Env} {As:List Ent} {ty:TypeId} {x y:Operand} {w:World}
theorem Z13 {t:TypeId} {k:IntKind} [UL P t (.int k)] (d:Nat) (a b:Int):(Op.equalIn (d+1) t (.int k a) (.int k b)).run P w=.ok (a == b) w:=by
 simp [Op.equalIn,Zam]
theorem Zvb {t:TypeId} {k:IntKind} [UL P t (.int k)] (cs:Array Value) (i:Nat) {v:Value} (h:cs[i]?=some v):(part t cs i).run P w=.ok v w:=by
 simp [part,Zdb,aggB,h]
theorem Zxf {p q:V3}:p=q↔p.x=q.x∧p.y=q.y∧p.z=q.z:=by
 cases p;cases q;simp
theorem Zvc {t el:TypeId} {z:Value} {b:Nat} [UL P t (.array 3 el)] [UL P el (.int .i64)] [TI P el z 1 b] (d:Nat) (p q:V3):(Op.equalIn (d+1+1) t p.val q.val).run P w=.ok (decide (p=q)) w:=by
 have hp:∀ (r:V3) (i:Nat) (v:Value),(#[Value.int .i64 r.x,.int .i64 r.y,.int .i64 r.z]:Array Value)[i]?=some v→(part el #[Value.int .i64 r.x,.int .i64 r.y,.int .i64 r.z] i).run P w=.ok v w:=fun r i v h=>Zvb _ _ h
 have p0:=fun r=>hp r 0 _ rfl
 have p1:=fun r=>hp r 1 _ rfl
 have p2:=fun r=>hp r 2 _ rfl
 unfold Op.equalIn
 simp only [V3.val,Sem.run_bind,Zam,Result.andThen_ok]
 simp only [Za8,Result.andThen_ok]
 simp [Std.Legacy.Range.forIn_eq_forIn_range',List.range'_succ,p0,p1,p2,Z13,Zxf]
 by_cases h0:p.x=q.x<;>by_cases h1:p.y=q.y<;>by_cases h2:p.z=q.z<;>simp [h0,h1,h2]
theorem Zro {t el:TypeId} {z:Value} {b:Nat} [UL P t (.array 3 el)] [UL P el (.int .i64)] [TI P el z 1 b] (p q:V3):(Op.equal t p.val q.val).run P w=.ok (decide (p=q)) w:=Zvc 9998 p q
theorem Zjq {t:TypeId} [h:NG P t] (op:BinOp) (x y:Operand) (p q:V3):(eqGuard op t x y p.val q.val).run P w=.ok () w:=by
 unfold eqGuard
 cases op<;>simp [V3.val,h.h]
theorem Zpi {t el t':TypeId} {z:Value} {b:Nat} [UL P t (.array 3 el)] [UL P el (.int .i64)] [TI P el z 1 b] [NG P t] (p q:V3) (hx:ev e x=some p.val) (hy:ev e y=some q.val):ExF P N w0 (.binOp .eql t x y t') ty e As (.bool (decide (p=q))):=by
 unfold ExF
 intro a w ha hs d pos af g
 have h1:binOp .eql t p.val q.val=(do pure (.bool (← Op.equal t p.val q.val))):=rfl
 simp only [execOp,ha.eval hx,ha.eval hy,Sem.run_bind,Zjq,Result.andThen_ok,h1,Zro]
 rfl
theorem Zpd {t el t':TypeId} {z:Value} {b:Nat} [UL P t (.array 3 el)] [UL P el (.int .i64)] [TI P el z 1 b] [NG P t] (p q:V3) (hx:ev e x=some p.val) (hy:ev e y=some q.val):ExF P N w0 (.binOp .neq t x y t') ty e As (.bool !(decide (p=q))):=by
 unfold ExF
 intro a w ha hs d pos af g
 have h1:binOp .neq t p.val q.val=(do pure (.bool (!(← Op.equal t p.val q.val)))):=rfl
 simp only [execOp,ha.eval hx,ha.eval hy,Sem.run_bind,Zjq,Result.andThen_ok,h1,Zro]
 rfl
theorem Zyl {t el t':TypeId} {z:Value} {b:Nat} {a1 a2 a3 b1 b2 b3:Int} [UL P t (.array 3 el)] [UL P el (.int .i64)] [TI P el z 1 b] [NG P t] (hx:ev e x=some (.agg #[.int .i64 a1,.int .i64 a2,.int .i64 a3])) (hy:ev e y=some (.agg #[.int .i64 b1,.int .i64 b2,.int .i64 b3])) :
  ExF P N w0 (.binOp .eql t x y t') ty e As (.bool (decide ((⟨a1,a2,a3⟩:V3)=⟨b1,b2,b3⟩))):=Zpi ⟨a1,a2,a3⟩ ⟨b1,b2,b3⟩ hx hy
theorem Zyh {t el t':TypeId} {z:Value} {b:Nat} {a1 a2 a3 b1 b2 b3:Int} [UL P t (.array 3 el)] [UL P el (.int .i64)] [TI P el z 1 b] [NG P t] (hx:ev e x=some (.agg #[.int .i64 a1,.int .i64 a2,.int .i64 a3])) (hy:ev e y=some (.agg #[.int .i64 b1,.int .i64 b2,.int .i64 b3])) :
  ExF P N w0 (.binOp .neq t x y t') ty e As (.bool !(decide ((⟨a1,a2,a3⟩:V3)=⟨b1,b2,b3⟩))):=Zpd ⟨a1,a2,a3⟩ ⟨b1,b2,b3⟩ hx hy
end
end Go.Sx
