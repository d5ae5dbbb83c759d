/- Whole numbers, plain: groups of nine digits, decimal digits, texts. -/
import Derived.Test.YtbfgldlfciimiaaGreatDoorSxA
import Derived.Lib.ParseIntB
import Derived.Test.YtbfgldlfciimiaaGreatDoorSx9
import Derived.Test.YtbfgldlfciimiaaGreatDoorSx8
import Derived.WalkSpells
namespace Go.Sx
open Go
def valB:List Nat→Nat
 | []=>0
 | d::r=>d+1000000000 * valB r
def mag (n:Nat):List Nat:=if h:n=0 then [] else n % 1000000000::mag (n / 1000000000)
termination_by n
decreasing_by omega
theorem Zaz:mag 0=[]:=by rw [mag,dif_pos rfl]
theorem Zeu {n:Nat} (h:n≠0):mag n=n % 1000000000::mag (n / 1000000000):=by rw [mag,dif_neg h]
theorem Zvn {p:Nat→Prop} (h0:p 0) (h1:∀ n,n≠0→p (n / 1000000000)→p n) (n:Nat):p n:=by
 induction n using Nat.strongRecOn with
 | _ n ih =>
  by_cases h:n=0
  ·subst h;exact h0
  ·exact h1 n h (ih _ (by omega))
theorem Za8 (n:Nat):valB (mag n)=n:=by
 induction n using Zvn with
 | h0=>rw [Zaz];rfl
 | h1 n h ih=>rw [Zeu h,valB,ih];omega
theorem Za2 (n:Nat):∀ d∈mag n,d < 1000000000:=by
 induction n using Zvn with
 | h0=>rw [Zaz];intro d hd;cases hd
 | h1 n h ih =>
  rw [Zeu h]
  intro d hd
  rcases List.mem_cons.1 hd with rfl|hd
  ·omega
  ·exact ih d hd
theorem Ya4 {n:Nat}:mag n=[]↔n=0:=by
 constructor
 ·intro h
  have:=Za8 n
  rw [h] at this
  exact this.symm
 ·rintro rfl;exact Zaz
theorem Zxq {n:Nat}:(mag n).length=0↔n=0:=by rw [List.length_eq_zero_iff,Ya4]
def trimL:List Nat→List Nat
 | []=>[]
 | d::r=>match trimL r with
  | []=>if d=0 then [] else [d]
  | x::s=>d::x::s
theorem Zix:∀ {xs:List Nat},(∀ d∈xs,d < 1000000000)→trimL xs=mag (valB xs)
 | [],_=>by rw [valB,Zaz];rfl
 | d :: r,h=>by
  have ih:=Zix (xs:=r) fun x hx=>h x (List.mem_cons_of_mem _ hx)
  have hd:=h d (List.mem_cons_self ..)
  rw [trimL,ih,valB]
  by_cases hv:valB r=0
  ·rw [hv,Zaz]
   by_cases h0:d=0
   ·subst h0;rw [Zaz];rfl
   ·simp only [if_neg h0,Nat.mul_zero,Nat.add_zero]
    rw [Zeu h0,Nat.mod_eq_of_lt hd,Nat.div_eq_of_lt hd,Zaz]
  ·have h1:mag (d+1000000000 * valB r)=d::mag (valB r):=by
    rw [Zeu (by omega)]
    rw [show (d+1000000000 * valB r) % 1000000000=d by omega,show (d+1000000000 * valB r) / 1000000000=valB r by omega]
   rw [h1]
   cases hm:mag (valB r) with
   | nil=>exact absurd (Ya4.1 hm) hv
   | cons x s=>rfl
theorem Zhc:∀ {xs:List Nat},trimL (xs++[0])=trimL xs
 | []=>rfl
 | d::r=>by rw [List.cons_append,trimL,Zhc (xs:=r),trimL]
theorem Zee {y:Nat} (hy:y≠0):∀ {xs:List Nat},trimL (xs++[y])=xs++[y]
 | []=>by simp [trimL,hy]
 | d::r=>by
  rw [List.cons_append,trimL,Zee hy (xs:=r)]
  cases r<;>rfl
theorem Zc0:∀ {xs ys:List Nat},valB (xs++ys)=valB xs+1000000000 ^ xs.length * valB ys
 | [],ys=>by simp [valB]
 | d::r,ys=>by
  rw [List.cons_append,valB,Zc0 (xs:=r),valB,List.length_cons,Nat.pow_succ,Nat.mul_add,Nat.mul_comm (1000000000 ^ r.length) 1000000000,Nat.mul_assoc]
  omega
theorem Zdi:∀ {xs:List Nat},(∀ d∈xs,d < 1000000000)→valB xs < 1000000000 ^ xs.length
 | [],_=>by simp [valB]
 | d::r,h=>by
  have ih:=Zdi (xs:=r) fun x hx=>h x (List.mem_cons_of_mem _ hx)
  have hd:=h d (List.mem_cons_self ..)
  rw [valB,List.length_cons,Nat.pow_succ]
  omega
theorem Zaw {xs:List Nat} {i d:Nat} (h:xs[i]?=some d):valB (xs.take (i+1))=valB (xs.take i)+1000000000 ^ i * d:=by
 have hi:=(List.getElem?_eq_some_iff.1 h).1
 rw [List.take_succ_eq_append_getElem hi,Zc0,(List.getElem?_eq_some_iff.1 h).2]
 simp only [List.length_take,Nat.min_eq_left (Nat.le_of_lt hi),valB,Nat.mul_zero,Nat.add_zero]
theorem Zxr (n:Nat):∀ i,(mag n).drop i=mag (n / 1000000000 ^ i)
 | 0=>by simp
 | i+1=>by
  have ih:=Zxr n i
  rw [← List.drop_drop,ih,Nat.pow_succ,← Nat.div_div_eq_div_mul]
  by_cases h:n / 1000000000 ^ i=0
  ·rw [h,Zaz];simp
  ·rw [Zeu h];rfl
theorem Zb5 {n i d:Nat} (h:(mag n)[i]?=some d):n / 1000000000 ^ i=d+1000000000 * (n / 1000000000 ^ (i+1))∧n / 1000000000 ^ i≠0∧d < 1000000000:=by
 have h1:(mag (n / 1000000000 ^ i))[0]?=some d:=by rw [← Zxr,List.getElem?_drop,Nat.add_zero,h]
 have h0:n / 1000000000 ^ i≠0:=fun h0=>by rw [h0,Zaz] at h1;cases h1
 rw [Zeu h0] at h1
 simp only [List.getElem?_cons_zero,Option.some.injEq] at h1
 have h2:n / 1000000000 ^ (i+1)=n / 1000000000 ^ i / 1000000000:=by rw [Nat.pow_succ,Nat.div_div_eq_div_mul]
 refine ⟨?_,h0,by omega⟩
 rw [h2];omega
theorem Zai (n:Nat):n < 1000000000 ^ (mag n).length:=by
 have:=Zdi (Za2 n)
 rwa [Za8] at this
theorem Zc5 {n:Nat} (h:n≠0):1000000000 ^ ((mag n).length - 1)≤n:=by
 induction n using Zvn with
 | h0=>exact absurd rfl h
 | h1 n h ih =>
  rw [Zeu h,List.length_cons,Nat.add_sub_cancel]
  by_cases h1:n / 1000000000=0
  ·rw [h1,Zaz];simp;omega
  ·have h2:=ih h1
   have h3:(mag (n / 1000000000)).length≠0:=fun h=>h1 (Zxq.1 h)
   have e:(mag (n / 1000000000)).length=(mag (n / 1000000000)).length - 1+1:=by omega
   rw [e,Nat.pow_succ]
   omega
theorem Zah {a b:Nat} (h:a≤b):(mag a).length≤(mag b).length:=by
 by_cases ha:a=0
 ·subst ha;rw [Zaz];exact Nat.zero_le _
 ·have h1:=Zc5 ha
  have h2:=Zai b
  rcases Nat.lt_or_ge (mag b).length (mag a).length with h3|h3
  ·have h4:=Nat.pow_le_pow_right (n:=1000000000) (by omega) (show (mag b).length≤(mag a).length - 1 by omega)
   omega
  ·exact h3
theorem Z28 {l:List Nat} (h:∀ d∈l,d < 1000000000) (hp:l=[]∨1000000000 ^ (l.length - 1)≤valB l):l=mag (valB l):=by
 rw [← Zix h]
 rcases hp with rfl|hp
 ·rfl
 rcases List.eq_nil_or_concat l with rfl|⟨xs,y,rfl⟩
 ·rfl
 ·by_cases hy:y=0
  ·subst hy
   rw [List.concat_eq_append] at hp h
   have h1:=Zdi (xs:=xs) fun d hd=>h d (List.mem_append_left _ hd)
   rw [Zc0] at hp
   simp only [valB,Nat.mul_zero,Nat.add_zero,List.length_append,List.length_cons,List.length_nil,Nat.add_sub_cancel] at hp
   omega
  ·rw [List.concat_eq_append,Zee hy]

/-! decimal digits -/
def dig (c:UInt8):Nat:=c.toNat - 48
def isDig (c:UInt8):Bool:=decide (48≤c.toNat)&&decide (c.toNat≤57)
theorem Zjg {c:UInt8}:isDig c=true↔48≤c.toNat∧c.toNat≤57:=by simp [isDig]
def numOf (l:List UInt8):Nat:=l.foldl (fun n c=>n * 10+dig c) 0
theorem Zdm {l:List UInt8} {c:UInt8}:numOf (l++[c])=numOf l * 10+dig c:=by simp [numOf]
theorem Zmv:∀ (b:List UInt8) (n:Nat),b.foldl (fun n c=>n * 10+dig c) n=n * 10 ^ b.length+numOf b
 | [],n=>by simp [numOf]
 | c::b,n=>by
  have h1:=Zmv b (n * 10+dig c)
  have h2:=Zmv b (0 * 10+dig c)
  have h3:numOf (c::b)=b.foldl (fun n c=>n * 10+dig c) (0 * 10+dig c):=rfl
  rw [List.foldl_cons,h1,h3,h2,List.length_cons,Nat.pow_succ,Nat.add_mul,Nat.mul_assoc,Nat.mul_comm 10 (10 ^ b.length)]
  simp only [Nat.zero_mul,Nat.zero_add]
  omega
theorem Zci {a b:List UInt8}:numOf (a++b)=numOf a * 10 ^ b.length+numOf b:=by
 rw [numOf,List.foldl_append,Zmv];rfl
theorem Z35 {c:UInt8} (h:isDig c=true):dig c < 10:=by
 rw [Zjg] at h;unfold dig;omega
theorem Zdt:∀ {l:List UInt8},(∀ c∈l,isDig c=true)→numOf l < 10 ^ l.length:=by
 intro l
 induction l with
 | nil=>intro _;simp [numOf]
 | cons c l ih =>
  intro h
  have h1:=ih fun x hx=>h x (List.mem_cons_of_mem _ hx)
  have h2:=Z35 (h c (List.mem_cons_self ..))
  have h3:=Zci (a:=[c]) (b:=l)
  have h4:numOf [c]=dig c:=by simp [numOf]
  rw [List.singleton_append,h4] at h3
  rw [h3,List.length_cons,Nat.pow_succ]
  have h5:=Nat.mul_le_mul_right (10 ^ l.length) (show dig c≤9 by omega)
  omega
def grp (l:List UInt8):List Nat:=if h:l.length≤9 then [numOf l] else numOf (l.drop (l.length - 9))::grp (l.take (l.length - 9))
termination_by l.length
decreasing_by simp;omega
theorem Zx2 {l:List UInt8} (h:l.length≤9):grp l=[numOf l]:=by rw [grp,dif_pos h]
theorem Z3n {l:List UInt8} (h:¬ l.length≤9):grp l=numOf (l.drop (l.length - 9))::grp (l.take (l.length - 9)):=by rw [grp,dif_neg h]
theorem Zx1 (k:Nat):∀ {l:List UInt8},l.length≤k→(∀ c∈l,isDig c=true)→valB (grp l)=numOf l∧∀ d∈grp l,d < 1000000000:=by
 induction k with
 | zero =>
  intro l hl _
  have:l=[]:=List.length_eq_zero_iff.1 (by omega)
  subst this
  rw [Zx2 (by simp)]
  simp [valB,numOf]
 | succ k ih =>
  intro l hl hd
  by_cases h:l.length≤9
  ·rw [Zx2 h]
   have h1:=Zdt hd
   have h2:=Nat.pow_le_pow_right (n:=10) (by omega) h
   refine ⟨by simp [valB],fun d hm=>?_⟩
   rw [List.mem_singleton.1 hm]
   omega
  ·rw [Z3n h]
   obtain ⟨h1,h2⟩:=ih (l:=l.take (l.length - 9)) (by simp;omega) fun c hc=>hd c (List.mem_of_mem_take hc)
   have hld:(l.drop (l.length - 9)).length=9:=by simp;omega
   have h3:=Zdt (l:=l.drop (l.length - 9)) fun c hc=>hd c (List.mem_of_mem_drop hc)
   rw [hld] at h3
   refine ⟨?_,fun d hm=>?_⟩
   ·have h4:=Zci (a:=l.take (l.length - 9)) (b:=l.drop (l.length - 9))
    rw [List.take_append_drop,hld] at h4
    rw [valB,h1,h4]
    omega
   ·rcases List.mem_cons.1 hm with rfl|hm
    ·omega
    ·exact h2 d hm
theorem Zkx {k:Nat} (h:k < 10):dig (UInt8.ofNat (48+k))=k∧isDig (UInt8.ofNat (48+k))=true∧(UInt8.ofNat (48+k)).toNat=48+k:=by
 have:(UInt8.ofNat (48+k)).toNat=48+k:=by simp;omega
 refine ⟨by rw [dig,this];omega,by rw [Zjg,this];omega,this⟩
theorem Zb7 {n:Nat} (h:n < 10):Lib.decDigits n=[UInt8.ofNat (48+n)]:=Lib.decDigits_one h
theorem Zkb {n:Nat} (h:¬ n < 10):Lib.decDigits n=Lib.decDigits (n / 10)++[UInt8.ofNat (48+n % 10)]:=by rw [Lib.decDigits,dif_neg h]
theorem Zv4 {p:Nat→Prop} (h0:∀ n,n < 10→p n) (h1:∀ n,¬ n < 10→p (n / 10)→p n) (n:Nat):p n:=by
 induction n using Nat.strongRecOn with
 | _ n ih =>
  by_cases h:n < 10
  ·exact h0 n h
  ·exact h1 n h (ih _ (by omega))
theorem Zmj (n:Nat):numOf (Lib.decDigits n)=n:=by
 induction n using Zv4 with
 | h0 n h=>rw [Zb7 h];show 0 * 10+dig _=n;rw [(Zkx h).1];omega
 | h1 n h ih=>rw [Zkb h,Zdm,ih,(Zkx (show n % 10 < 10 by omega)).1];omega
theorem Zra (n:Nat):∀ c∈Lib.decDigits n,isDig c=true:=by
 induction n using Zv4 with
 | h0 n h =>
  rw [Zb7 h]
  intro c hc
  rw [List.mem_singleton.1 hc];exact (Zkx h).2.1
 | h1 n h ih =>
  rw [Zkb h]
  intro c hc
  rcases List.mem_append.1 hc with hc|hc
  ·exact ih c hc
  ·rw [List.mem_singleton.1 hc];exact (Zkx (show n % 10 < 10 by omega)).2.1
theorem Zbm (n:Nat):(Lib.decDigits n).length=Lib.nDigits n:=Lib.decDigits_length n
theorem Zdn (n:Nat):0 < Lib.nDigits n:=by
 by_cases h:n < 10
 ·rw [Lib.nDigits_small h];decide
 ·rw [Lib.nDigits_big h];omega
theorem Zq9 {n:Nat} (h0:n≠0):∃ c r,Lib.decDigits n=c::r∧c.toNat≠48:=by
 induction n using Zv4 with
 | h0 n h=>exact ⟨_,[],Zb7 h,by rw [(Zkx h).2.2];omega⟩
 | h1 n h ih =>
  obtain ⟨c,r,h1,h2⟩:=ih (by omega)
  exact ⟨c,r++[_],by rw [Zkb h,h1];rfl,h2⟩
def pad:Nat→Nat→List UInt8
 | 0,_=>[]
 | k+1,r=>pad k (r / 10)++[UInt8.ofNat (48+r % 10)]
theorem Zxl:∀ k,pad k 0=List.replicate k 48
 | 0=>rfl
 | k+1=>by rw [pad,Zxl k,List.replicate_succ'];rfl
theorem Z2l:∀ {k r:Nat},Lib.nDigits r≤k→pad k r=List.replicate (k - Lib.nDigits r) 48++Lib.decDigits r
 | 0,r,h=>by have:=Zdn r;omega
 | k + 1,r,h=>by
  rw [pad]
  by_cases h1:r < 10
  ·rw [Lib.nDigits_small h1,Zb7 h1,show r / 10=0 by omega,Zxl,show r % 10=r by omega];rfl
  ·rw [Lib.nDigits_big h1] at h ⊢
   rw [Z2l (by omega),Zkb h1,List.append_assoc,show k+1 - (Lib.nDigits (r / 10)+1)=k - Lib.nDigits (r / 10) by omega]
theorem Ztu {q:Nat} (hq:0 < q):∀ {k r:Nat},r < 10 ^ k→Lib.decDigits (q * 10 ^ k+r)=Lib.decDigits q++pad k r
 | 0,r,h=>by
  have:r=0:=by simpa using h
  subst this;simp [pad]
 | k + 1,r,h=>by
  have hp:0 < 10 ^ k:=Nat.pow_pos (by omega)
  have hqk:=Nat.mul_pos hq hp
  rw [Nat.pow_succ] at h
  have e1:q * 10 ^ (k+1)=q * 10 ^ k * 10:=by rw [Nat.pow_succ,Nat.mul_assoc]
  have e2:(q * 10 ^ (k+1)+r) / 10=q * 10 ^ k+r / 10:=by rw [e1];omega
  have e3:(q * 10 ^ (k+1)+r) % 10=r % 10:=by rw [e1];omega
  have h2:¬ q * 10 ^ (k+1)+r < 10:=by
   rw [e1]
   omega
  rw [Zkb h2,e2,e3,Ztu hq (by omega),pad,List.append_assoc]
theorem Zbt {k:Nat}:∀ {r:Nat},r < 10 ^ (k+1)→Lib.nDigits r≤k+1:=by
 induction k with
 | zero=>intro r h;rw [Lib.nDigits_small (by simpa using h)];exact Nat.le_refl _
 | succ k ih =>
  intro r h
  by_cases h1:r < 10
  ·rw [Lib.nDigits_small h1];omega
  ·rw [Lib.nDigits_big h1]
   rw [Nat.pow_succ] at h
   have:=ih (r:=r / 10) (by omega)
   omega
theorem Zm5 {q d:Nat} (hq:q≠0) (hd:d < 1000000000):Lib.decDigits (d+1000000000 * q)=Lib.decDigits q++(List.replicate (9 - Lib.nDigits d) 48++Lib.decDigits d):=by
 have h:=Ztu (q:=q) (by omega) (k:=9) (r:=d) (by simpa using hd)
 rw [show q * 10 ^ 9+d=d+1000000000 * q by omega] at h
 rw [h,Z2l (Zbt (k:=8) (by simpa using hd))]
theorem Zql {q d:Nat} (hq:q≠0) (hd:d < 1000000000):Lib.nDigits (d+1000000000 * q)=Lib.nDigits q+9:=by
 have h:=congrArg List.length (Zm5 hq hd)
 have h1:=Zbt (k:=8) (r:=d) (by simpa using hd)
 simp only [List.length_append,List.length_replicate,Zbm] at h
 omega
theorem Zck {n:Nat}:∀ i,n / 1000000000 ^ i≠0→Lib.nDigits n=9 * i+Lib.nDigits (n / 1000000000 ^ i)
 | 0,_=>by simp
 | i+1,h=>by
  have e:n / 1000000000 ^ (i+1)=n / 1000000000 ^ i / 1000000000:=by rw [Nat.pow_succ,Nat.div_div_eq_div_mul]
  rw [e] at h ⊢
  rw [Zck i (by omega)]
  have:=Zql (q:=n / 1000000000 ^ i / 1000000000) (d:=n / 1000000000 ^ i % 1000000000) h (by omega)
  rw [show n / 1000000000 ^ i % 1000000000+1000000000 * (n / 1000000000 ^ i / 1000000000)=n / 1000000000 ^ i by omega] at this
  omega

/-! texts of whole numbers -/
def textI (z:Int):List UInt8:=Lib.itoa z
def readW (s:List UInt8):Option Int :=
 if Lib.hasPrefix s [45] then
  if 0 < (s.drop 1).length∧(s.drop 1).length≤600∧(∀ c∈s.drop 1,isDig c=true)∧(s.drop 1)[0]?≠some 48 then some (-(numOf (s.drop 1):Int)) else none
 else if 0 < s.length∧s.length≤600∧(∀ c∈s,isDig c=true)∧(s[0]?=some 48→s.length=1) then some (numOf s:Int) else none
theorem Zi3 {s l:List UInt8} {neg:Bool} (hn:Lib.hasPrefix s [45]=neg) (hl:Lib.trimPrefix s [45]=l) :
  readW s=if 0 < l.length∧l.length≤600∧(∀ c∈l,isDig c=true)∧(l[0]?=some 48→neg=false∧l.length=1) then some (if neg then -(numOf l:Int) else (numOf l:Int)) else none:=by
 subst hn hl
 unfold readW Lib.trimPrefix
 cases Lib.hasPrefix s [45]<;>simp
theorem Zfp {l:List UInt8} (hd:∀ c∈l,isDig c=true) (h0:0 < l.length) (h:l[0]?≠some 48):0 < numOf l:=by
 cases l with
 | nil=>simp at h0
 | cons c l =>
  have h1:=Zci (a:=[c]) (b:=l)
  rw [List.singleton_append] at h1
  have h2:=Zjg.1 (hd c (List.mem_cons_self ..))
  have h3:c.toNat≠48:=fun h3=>h (by
   have:c=48:=by apply UInt8.toNat_inj.1;rw [h3];rfl
   simp [this])
  have h4:numOf [c]=dig c:=by simp [numOf]
  have h5:1≤dig c:=by unfold dig;omega
  have h6:0 < 10 ^ l.length:=Nat.pow_pos (by omega)
  have h7:=Nat.mul_le_mul_right (10 ^ l.length) h5
  rw [h1,h4];omega
def outW (z:Int):List UInt8 × Int:=if 600 < Lib.nDigits z.natAbs then ([],6) else (textI z,0)
end Go.Sx
namespace Go.Sx
open Go
theorem Zi7 {X P c A B g c' d e:Nat} (h:X+P * c=A+B) (hd:g+1000000000 * c'=d+c+e):X+P * g+P * 1000000000 * c'=A+P * d+(B+P * e):=by
 have h1:P * (g+1000000000 * c')=P * (d+c+e):=by rw [hd]
 rw [Nat.mul_add,Nat.mul_add,Nat.mul_add,← Nat.mul_assoc] at h1
 omega
theorem Zoy {X P c A B g c' d e:Nat} (h:X+B=A+P * c) (hd:g+c+e=d+1000000000 * c'):X+P * g+(B+P * e)=A+P * d+P * 1000000000 * c':=by
 have h1:P * (g+c+e)=P * (d+1000000000 * c'):=by rw [hd]
 rw [Nat.mul_add,Nat.mul_add,Nat.mul_add,← Nat.mul_assoc] at h1
 omega
theorem Zgp {xs:List Nat} {d:Nat}:valB (xs++[d])=valB xs+1000000000 ^ xs.length * d:=by
 rw [Zc0];simp [valB]
theorem Zak {xs:List Nat} {i:Nat} (h:xs.length≤i):valB (xs.take i)=valB xs:=by rw [List.take_of_length_le h]
theorem Zfk {xs:List Nat} {d:Nat} (h:∀ x∈xs,x < 1000000000) (hd:d < 1000000000):∀ x∈xs++[d],x < 1000000000:=fun x hx=>by
 rcases List.mem_append.1 hx with hx|hx
 ·exact h x hx
 ·rw [List.mem_singleton.1 hx];exact hd
theorem Zax {xs:List Nat} {i d:Nat} (h:∀ x∈xs,x < 1000000000) (hd:d < 1000000000):∀ x∈xs.set i d,x < 1000000000:=fun x hx=>by
 rcases List.mem_or_eq_of_mem_set hx with hx|rfl
 ·exact h x hx
 ·exact hd
theorem Zw4 {a b:Nat} {xs:List Nat} (hs:∀ x∈xs,x < 1000000000) (hl:xs.length=(mag a).length) (hv:valB xs=a+b) (hb:(mag b).length≤(mag a).length):xs=mag (a+b):=by
 rw [← hv]
 refine Z28 hs ?_
 by_cases h0:a=0
 ·subst h0
  rw [Zaz] at hl
  exact .inl (List.length_eq_zero_iff.1 hl)
 ·have:=Zc5 h0
  right
  rw [hl,hv];omega
theorem Zw3 {a b:Nat} {xs:List Nat} (hs:∀ x∈xs,x < 1000000000) (_hl:xs.length=(mag a).length) (hv:valB xs+1000000000 ^ xs.length=a+b):xs++[1]=mag (a+b):=by
 have h1:valB (xs++[1])=a+b:=by rw [Zgp,Nat.mul_one];exact hv
 rw [← h1]
 refine Z28 (Zfk hs (by decide)) (.inr ?_)
 rw [h1,List.length_append,List.length_singleton,Nat.add_sub_cancel,← hv]
 omega
theorem Zrg {a b:Nat} (h:(mag a).length < (mag b).length):a < b:=by
 have h1:=Zai a
 have hb:b≠0:=fun h0=>by subst h0;rw [Zaz] at h;simp at h
 have h2:=Zc5 hb
 have h3:=Nat.pow_le_pow_right (n:=1000000000) (by omega) (show (mag a).length≤(mag b).length - 1 by omega)
 omega
theorem Zjo {a b i d e:Nat} (h:a / 1000000000 ^ (i+1)=b / 1000000000 ^ (i+1)) (ha:a / 1000000000 ^ i=d+1000000000 * (a / 1000000000 ^ (i+1))) (hb:b / 1000000000 ^ i=e+1000000000 * (b / 1000000000 ^ (i+1))) (hde:d < e):a < b:=by
 rcases Nat.lt_or_ge a b with h1|h1
 ·exact h1
 ·have:=Nat.div_le_div_right (c:=1000000000 ^ i) h1
  omega
theorem Zmq {n k:Nat} (h:n < 10 ^ k):(mag n).length≤k:=by
 by_cases h0:n=0
 ·subst h0;rw [Zaz];exact Nat.zero_le _
 ·have h1:=Zc5 h0
  have h2:10 ^ ((mag n).length - 1)≤1000000000 ^ ((mag n).length - 1):=Nat.pow_le_pow_left (by omega) _
  rcases Nat.lt_or_ge k (mag n).length with h3|h3
  ·have h4:=Nat.pow_le_pow_right (n:=10) (by omega) (show k≤(mag n).length - 1 by omega)
   omega
  ·exact h3
theorem Zf5 {s:List UInt8} {z:Int} (h:readW s=some z):z.natAbs < 10 ^ 600:=by
 rw [Zi3 rfl rfl] at h
 split at h
 ·rename_i hc
  have h1:=Zdt hc.2.2.1
  have h2:=Nat.pow_le_pow_right (n:=10) (by omega) hc.2.1
  have h3:=Option.some.inj h
  have h4:z.natAbs=numOf (Lib.trimPrefix s [45]):=by rw [← h3];split<;>omega
  rw [h4]
  exact Nat.lt_of_lt_of_le h1 h2
 ·cases h
theorem Zbw {s:List UInt8} {z:Int} (h:readW s=some z):(mag z.natAbs).length≤600:=Zmq (Zf5 h)
theorem Z8l {k:Nat} {x y:Int} (h1:x.natAbs < 10 ^ k) (h2:y.natAbs < 10 ^ k):(mag (x+y).natAbs).length≤k+1:=by
 refine Zmq ?_
 have h3:(x+y).natAbs≤x.natAbs+y.natAbs:=by omega
 have h4:(10:Nat) ^ (k+1)=10 ^ k * 10:=Nat.pow_succ ..
 omega
theorem Z4t {x y:Int} (h1:x.natAbs < 10 ^ 600) (h2:y.natAbs < 10 ^ 600):(mag (x+y).natAbs).length≤601:=Z8l h1 h2
/-! texts of numbers are read back -/
theorem Zbe {c:UInt8} {l:List UInt8}:Lib.hasPrefix (c::l) [45]=decide (c=45):=by
 unfold Lib.hasPrefix
 by_cases h:c=45
 ·subst h;rfl
 ·simp [List.isPrefixOf,h];exact fun h1=>h h1.symm
theorem Zbs {z:Int} (h:Lib.nDigits z.natAbs≤600):readW (textI z)=some z:=by
 have hd:=Zra z.natAbs
 have hn:=Zmj z.natAbs
 have hlen:=Zbm z.natAbs
 have hp:=Zdn z.natAbs
 have hh:∀ (P:Prop),((Lib.decDigits z.natAbs)[0]?=some 48→z.natAbs≠0→P):=fun P h0 hz=>by
  obtain ⟨c,r,h1,h2⟩:=Zq9 (n:=z.natAbs) hz
  rw [h1] at h0
  simp at h0
  subst h0
  exact absurd rfl h2
 by_cases hz:z < 0
 ·have ht:textI z=45::Lib.decDigits z.natAbs:=by simp [textI,Lib.itoa,hz]
  have hc:0 < (Lib.decDigits z.natAbs).length∧(Lib.decDigits z.natAbs).length≤600∧(∀ c∈Lib.decDigits z.natAbs,isDig c=true)∧((Lib.decDigits z.natAbs)[0]?=some 48→true=false∧(Lib.decDigits z.natAbs).length=1):=⟨by omega,by omega,hd,fun h0=>hh _ h0 (by omega)⟩
  rw [ht,Zi3 (l:=Lib.decDigits z.natAbs) (neg:=true) (by rw [Zbe];rfl) (by rw [Lib.trimPrefix,Zbe];rfl),if_pos hc,hn]
  simp;omega
 ·have ht:textI z=Lib.decDigits z.natAbs:=by simp only [textI,Lib.itoa,if_neg hz];rw [show z.toNat=z.natAbs by omega]
  have hne:Lib.hasPrefix (Lib.decDigits z.natAbs) [45]=false:=by
   cases hl:Lib.decDigits z.natAbs with
   | nil=>rw [hl] at hlen;simp at hlen;omega
   | cons c r =>
    rw [Zbe,decide_eq_false]
    rintro rfl
    have:=Zjg.1 (hd 45 (by rw [hl];exact List.mem_cons_self ..))
    have h45:(45:UInt8).toNat=45:=rfl
    omega
  have hc:0 < (Lib.decDigits z.natAbs).length∧(Lib.decDigits z.natAbs).length≤600∧(∀ c∈Lib.decDigits z.natAbs,isDig c=true)∧((Lib.decDigits z.natAbs)[0]?=some 48→false=false∧(Lib.decDigits z.natAbs).length=1):=⟨by omega,by omega,hd,fun h0=>⟨rfl,by
   by_cases h1:z.natAbs=0
   ·rw [h1,Zb7 (by decide)];rfl
   ·exact hh _ h0 h1⟩⟩
  rw [ht,Zi3 (l:=Lib.decDigits z.natAbs) (neg:=false) hne (by rw [Lib.trimPrefix,hne];rfl),if_pos hc,hn]
  simp;omega
end Go.Sx
namespace Go.Sx
open Go
/-! ### a group is changed -/
theorem Zf0:∀ {xs:List Nat} {k p g:Nat},xs[k]?=some p→valB (xs.set k g)+1000000000 ^ k * p=valB xs+1000000000 ^ k * g
 | [],k,p,g,h=>by simp at h
 | x::xs,0,p,g,h=>by
  simp only [List.getElem?_cons_zero,Option.some.injEq] at h
  subst h
  simp only [List.set_cons_zero,valB,Nat.pow_zero,Nat.one_mul]
  omega
 | x::xs,k+1,p,g,h=>by
  simp only [List.getElem?_cons_succ] at h
  have ih:=Zf0 (g:=g) h
  simp only [List.set_cons_succ,valB,Nat.pow_succ]
  rw [Nat.mul_comm (1000000000 ^ k) 1000000000,Nat.mul_assoc,Nat.mul_assoc]
  omega
theorem Zbc (xs:List Nat) (k:Nat):valB (xs.take k)+1000000000 ^ (xs.take k).length * valB (xs.drop k)=valB xs:=by
 rw [← Zc0,List.take_append_drop]
theorem Zuq {xs:List Nat} {k d:Nat} (h:xs[k]?=some d):1000000000 ^ k * d≤valB xs:=by
 have h1:=Zaw h
 have h2:=Zbc xs (k+1)
 omega
theorem Ziv {xs:List Nat} {n k d:Nat} (h:valB xs < 1000000000 ^ n) (hk:n≤k) (hd:xs[k]?=some d):d=0:=by
 have h1:=Zuq hd
 have h2:=Nat.pow_le_pow_right (n:=1000000000) (by omega) hk
 rcases Nat.eq_zero_or_pos d with h3|h3
 ·exact h3
 ·have:=Nat.mul_le_mul_left (1000000000 ^ k) h3
  omega
theorem Zdv {xs:List Nat} {i d:Nat} (h:xs[i]?=some d):valB (xs.drop i)=d+1000000000 * valB (xs.drop (i+1)):=by
 obtain ⟨hi,he⟩:=List.getElem?_eq_some_iff.1 h
 rw [List.drop_eq_getElem_cons hi,he,valB]
theorem Zb9:∀ n,valB (List.replicate n 0)=0
 | 0=>rfl
 | n+1=>by rw [List.replicate_succ,valB,Zb9 n]
theorem Zda (n:Nat):∀ x∈List.replicate n 0,x < 1000000000:=fun x h=>by rw [List.eq_of_mem_replicate h];decide
/-! ### products -/
theorem Zoh {V V' P c p t de A:Nat} (hs:V'+P * p=V+P * (t % 1000000000)) (ht:t=c+p+de) (hv:V+P * c=A):V'+P * 1000000000 * (t / 1000000000)=A+P * de:=by
 have h1:P * (t % 1000000000)+P * 1000000000 * (t / 1000000000)=P * t:=by
  rw [Nat.mul_assoc,← Nat.mul_add];congr 1;omega
 have h2:P * t=P * c+P * p+P * de:=by rw [ht,Nat.mul_add,Nat.mul_add]
 omega
theorem Zmn {d e c p:Nat} (hd:d < 1000000000) (he:e < 1000000000) (hc:c < 1000000000) (hp:p < 1000000000):c+p+d * e < 1000000000 * 1000000000:=by
 have h1:d * e≤999999999 * 999999999:=Nat.mul_le_mul (by omega) (by omega)
 omega
theorem Zav (a b:Nat):(mag (a * b)).length≤(mag a).length+(mag b).length:=by
 have h1:=Zai a
 have h2:=Zai b
 by_cases h0:a * b=0
 ·rw [h0,Zaz];simp
 ·have h3:=Zc5 h0
  have h4:a * b < 1000000000 ^ ((mag a).length+(mag b).length):=by
   rw [Nat.pow_add]
   have hb:0 < b:=Nat.pos_of_ne_zero fun h=>h0 (by rw [h,Nat.mul_zero])
   exact Nat.lt_of_lt_of_le (Nat.mul_lt_mul_of_pos_right h1 hb) (Nat.mul_le_mul_left _ (Nat.le_of_lt h2))
  rcases Nat.lt_or_ge ((mag a).length+(mag b).length) (mag (a * b)).length with h5|h5
  ·have:=Nat.pow_le_pow_right (n:=1000000000) (by omega) (show (mag a).length+(mag b).length≤(mag (a * b)).length - 1 by omega)
   omega
  ·exact h5
theorem Zdo {n k:Nat} (h:n < 1000000000 ^ k):(mag n).length≤k:=by
 by_cases h0:n=0
 ·rw [h0,Zaz];simp
 ·have h1:=Zc5 h0
  rcases Nat.lt_or_ge k (mag n).length with h2|h2
  ·have:=Nat.pow_le_pow_right (n:=1000000000) (by omega) (show k≤(mag n).length - 1 by omega)
   omega
  ·exact h2
/-! ### a number by one group -/
theorem Zoj {Q d r M g cur:Nat} (hv:Q * d+r=M) (hc:cur=r * 1000000000+g):(cur / d+1000000000 * Q) * d+cur % d=g+1000000000 * M:=by
 have h1:=Nat.div_add_mod' cur d
 rw [Nat.add_mul,Nat.mul_assoc,← hv,Nat.mul_add]
 omega
theorem Zw7 {d r g:Nat} (hr:r < d) (hg:g < 1000000000):(r * 1000000000+g) / d < 1000000000:=by
 rw [Nat.div_lt_iff_lt_mul (by omega)]
 have:(r+1) * 1000000000≤d * 1000000000:=Nat.mul_le_mul_right _ hr
 rw [Nat.mul_comm 1000000000 d]
 omega
theorem Zfv {a d q r:Nat} (h:q * d+r=a) (hr:r < d):a / d=q∧a % d=r:=by
 subst h
 constructor
 ·rw [Nat.mul_comm,Nat.mul_add_div (by omega),Nat.div_eq_of_lt hr,Nat.add_zero]
 ·rw [Nat.mul_comm,Nat.mul_add_mod,Nat.mod_eq_of_lt hr]
/-! ### the divisor is made great -/
theorem Zjz {t:Nat} (h1:1≤t) (h2:t < 1000000000):500000000≤t * (1000000000 / (t+1))∧(t+1) * (1000000000 / (t+1))≤1000000000∧1≤1000000000 / (t+1):=by
 have hs:1≤1000000000 / (t+1):=by rw [Nat.le_div_iff_mul_le (by omega)];omega
 have hm:=Nat.div_add_mod 1000000000 (t+1)
 have hl:=Nat.mod_lt 1000000000 (show 0 < t+1 by omega)
 generalize 1000000000 / (t+1)=s at hs hm ⊢
 obtain ⟨s',rfl⟩:∃ s',s=s'+1:=⟨s - 1,by omega⟩
 obtain ⟨t',rfl⟩:∃ t',t=t'+1:=⟨t - 1,by omega⟩
 have e1:(t'+1+1) * (s'+1)=t' * s'+t'+2 * s'+2:=by grind
 have e2:(t'+1) * (s'+1)=t' * s'+t'+s'+1:=by grind
 refine ⟨?_,?_,hs⟩
 ·rw [e2];rw [e1] at hm;omega
 ·omega
theorem Zsg {b t l:Nat} (h1:1≤t) (h2:t < 1000000000) (hlo:t * 1000000000 ^ l≤b) (hhi:b < (t+1) * 1000000000 ^ l) :
  500000000 * 1000000000 ^ l≤b * (1000000000 / (t+1))∧b * (1000000000 / (t+1)) < 1000000000 ^ (l+1):=by
 obtain ⟨k1,k2,k3⟩:=Zjz h1 h2
 generalize 1000000000 / (t+1)=s at k1 k2 k3 ⊢
 generalize hP:1000000000 ^ l=P at hlo hhi ⊢
 constructor
 ·calc 500000000 * P≤t * s * P:=Nat.mul_le_mul_right _ k1
   _=t * P * s:=by rw [Nat.mul_right_comm]
   _≤b * s:=Nat.mul_le_mul_right _ hlo
 ·rw [Nat.pow_succ,hP]
  calc b * s < (t+1) * P * s:=Nat.mul_lt_mul_of_pos_right hhi k3
   _=(t+1) * s * P:=by rw [Nat.mul_right_comm]
   _≤1000000000 * P:=Nat.mul_le_mul_right _ k2
   _=P * 1000000000:=Nat.mul_comm _ _
/-! ### one group of a quotient: the first two groups tell it, but for little -/
section
variable {B K v1 v2 v' h u2 w' q r V W:Nat}
theorem Zxf (hv1:0 < v1) (hV:V=(v1 * B+v2) * K+v') (hW:W=(h * B+u2) * K+w') (hw:w' < K) (hu2:u2 < B) (_hB:0 < B):W / V≤h / v1:=by
 have hK:0 < K:=by omega
 rw [Nat.le_div_iff_mul_le hv1]
 have hd:W / V * V≤W:=Nat.div_mul_le_self W V
 generalize W / V=t at hd ⊢
 apply Nat.le_of_lt_succ
 have h1:t * v1 * (B * K) < (h+1) * (B * K):=by
  calc t * v1 * (B * K)=t * (v1 * B * K):=by rw [Nat.mul_assoc,Nat.mul_assoc]
   _≤t * V:=Nat.mul_le_mul_left _ (by rw [hV,Nat.add_mul];omega)
   _≤W:=hd
   _ < (h * B+u2) * K+K:=by omega
   _=(h * B+u2+1) * K:=by rw [Nat.add_mul _ 1 K,Nat.one_mul]
   _≤(h * B+B) * K:=Nat.mul_le_mul_right _ (by omega)
   _=(h+1) * (B * K):=by rw [← Nat.succ_mul,Nat.mul_assoc]
 exact Nat.lt_of_mul_lt_mul_right h1
theorem Z17 (hV:V=(v1 * B+v2) * K+v') (hW:W=(h * B+u2) * K+w') (hw:w' < K) (hq:q * v1+r=h) (hgt:r * B+u2 < q * v2):W / V < q:=by
 apply Nat.div_lt_of_lt_mul
 have h1:h * B+u2+1≤q * (v1 * B+v2):=by
  have:q * (v1 * B+v2)=q * v1 * B+q * v2:=by rw [Nat.mul_add,Nat.mul_assoc]
  rw [this,← hq,Nat.add_mul]
  omega
 calc W < (h * B+u2) * K+K:=by omega
  _=(h * B+u2+1) * K:=by rw [Nat.add_mul _ 1 K,Nat.one_mul]
  _≤q * (v1 * B+v2) * K:=Nat.mul_le_mul_right _ h1
  _=(v1 * B+v2) * K * q:=by rw [Nat.mul_assoc,Nat.mul_comm]
  _≤V * q:=Nat.mul_le_mul_right _ (by omega)
theorem Zxg (hv1:0 < v1) (hV:V=(v1 * B+v2) * K+v') (hv:v' < K) (hW:W=(h * B+u2) * K+w') (hq:q * v1+r=h) (hqB:q < B) (hle:q * v2≤r * B+u2):q≤W / V+1:=by
 have hVB:B * K≤V:=by
  have:1 * (B * K)≤v1 * (B * K):=Nat.mul_le_mul_right _ hv1
  rw [hV,Nat.add_mul]
  rw [← Nat.mul_assoc v1] at this
  omega
 have hK:0 < K:=by omega
 have hV0:0 < V:=Nat.lt_of_lt_of_le (Nat.mul_pos (by omega) hK) hVB
 have h1:q * V≤W+q * K:=by
  calc q * V≤q * ((v1 * B+v2+1) * K):=Nat.mul_le_mul_left _ (by rw [hV,Nat.add_mul _ 1 K];omega)
   _=(q * v1 * B+q * v2+q) * K:=by rw [← Nat.mul_assoc];congr 1;rw [Nat.mul_add,Nat.mul_add,Nat.mul_assoc,Nat.mul_one]
   _≤(h * B+u2+q) * K:=Nat.mul_le_mul_right _ (by rw [← hq,Nat.add_mul];omega)
   _=(h * B+u2) * K+q * K:=Nat.add_mul _ _ _
   _≤W+q * K:=by omega
 have h2:q * K < V:=Nat.lt_of_lt_of_le (Nat.mul_lt_mul_of_pos_right hqB hK) hVB
 have h3:W < (W / V+1) * V:=by rw [Nat.mul_comm];exact Nat.lt_mul_div_succ W hV0
 have h4:q * V < (W / V+2) * V:=by
  have:(W / V+2) * V=(W / V+1) * V+V:=Nat.succ_mul _ _
  omega
 have:=Nat.lt_of_mul_lt_mul_right h4
 omega
theorem Zxd (hV0:0 < V) (hV:V=(v1 * B+v2) * K+v') (hv:v' < K) (hv2:v2 < B) (hW:W=(h * B+u2) * K+w') (hq:q * v1+r=h) (hqB:q≤B) (hr:B≤r):q≤W / V:=by
 rw [Nat.le_div_iff_mul_le hV0]
 calc q * V≤q * ((v1 * B+v2+1) * K):=Nat.mul_le_mul_left _ (by rw [hV,Nat.add_mul _ 1 K];omega)
  _=(q * v1 * B+q * (v2+1)) * K:=by rw [← Nat.mul_assoc];congr 1;rw [Nat.add_assoc,Nat.mul_add,Nat.mul_assoc]
  _ ≤ (h * B) * K:=Nat.mul_le_mul_right _ (by
    have h1:q * (v2+1)≤B * B:=Nat.mul_le_mul hqB hv2
    have h2:B * B≤r * B:=Nat.mul_le_mul_right _ hr
    rw [← hq,Nat.add_mul];omega)
  _≤W:=by rw [hW,Nat.add_mul];omega
theorem Zso {u0 u1:Nat} (h1:u0 * B+u1=h) (hu1:u1 < B) (hv2:v2 < B) (hv:v' < K) (hV:V=(v1 * B+v2) * K+v') (hW:W=(h * B+u2) * K+w') (hlt:W < B * V) (hb:B≤2 * v1) (_hB:0 < B):h / v1≤B+1:=by
 have hK:0 < K:=by omega
 have hv1:0 < v1:=by omega
 have h2 : u0≤v1:=by
  apply Nat.le_of_lt_succ
  have:u0 * (B * B * K) < (v1+1) * (B * B * K):=by
   calc u0 * (B * B * K)=u0 * B * (B * K):=by simp only [Nat.mul_assoc]
    _≤h * (B * K):=Nat.mul_le_mul_right _ (by omega)
    _=h * B * K:=by rw [Nat.mul_assoc]
    _≤W:=by rw [hW,Nat.add_mul];omega
    _ < B * V:=hlt
    _ ≤ B * ((v1 * B+B) * K):=Nat.mul_le_mul_left _ (by
      have:(v1 * B+v2+1) * K≤(v1 * B+B) * K:=Nat.mul_le_mul_right _ (by omega)
      rw [hV];rw [Nat.add_mul _ 1 K] at this;omega)
    _=(v1+1) * (B * B * K):=by rw [← Nat.succ_mul,← Nat.mul_assoc,← Nat.mul_assoc,Nat.mul_comm B,Nat.mul_assoc (v1.succ),Nat.mul_assoc v1.succ]
  exact Nat.lt_of_mul_lt_mul_right this
 apply Nat.le_of_lt_succ
 rw [Nat.div_lt_iff_lt_mul hv1]
 have h3:u0 * B≤v1 * B:=Nat.mul_le_mul_right _ h2
 have h4:(B+1).succ * v1=v1 * B+2 * v1:=by rw [Nat.succ_mul,Nat.succ_mul,Nat.mul_comm];omega
 omega
end
/-! ### it is taken away -/
theorem Zr7 {X X' P c b b' u g q d N A:Nat} (hX:X'+P * u=X+P * g) (hx:X+N=A+P * (c+b)) (h:g+(c+q * d) % 1000000000+b=u+1000000000 * b'):X'+(N+P * (q * d))=A+P * 1000000000 * ((c+q * d) / 1000000000+b'):=by
 have h1:P * g+P * ((c+q * d) % 1000000000)+P * b=P * u+P * 1000000000 * b':=by
  rw [← Nat.mul_add,← Nat.mul_add,h,Nat.mul_add,Nat.mul_assoc]
 have h2:P * ((c+q * d) % 1000000000)+P * 1000000000 * ((c+q * d) / 1000000000)=P * c+P * (q * d):=by
  rw [Nat.mul_assoc,← Nat.mul_add,Nat.mod_add_div,Nat.mul_add]
 rw [Nat.mul_add P c b] at hx
 rw [Nat.mul_add]
 omega
theorem Zt1 {X X' P o o' u g d N A:Nat} (hX:X'+P * u=X+P * g) (hx:X+P * o=A+N) (h:g+1000000000 * o'=u+d+o):X'+P * 1000000000 * o'=A+(N+P * d):=by
 have h1:P * g+P * 1000000000 * o'=P * u+P * d+P * o:=by
  rw [Nat.mul_assoc,← Nat.mul_add,h,Nat.mul_add,Nat.mul_add]
 omega
/-! a part, from lo on -/
theorem Zts {α:Type} {xs:List α} {lo i:Nat} {g:α}:(xs.set (lo+i) g).drop lo=(xs.drop lo).set i g:=by
 rw [List.drop_set]
 rw [if_neg (by omega),Nat.add_sub_cancel_left]
theorem Zdh {xs:List Nat} {lo i p g:Nat} (h:xs[lo+i]?=some p):valB ((xs.set (lo+i) g).drop lo)+1000000000 ^ i * p=valB (xs.drop lo)+1000000000 ^ i * g:=by
 rw [Zts]
 exact Zf0 (by rw [List.getElem?_drop];exact h)
theorem Zog {xs:List Nat} {k x0 x1:Nat} (h0:xs[k]?=some x0) (h1:xs[k+1]?=some x1) (hl:xs.length=k+2):valB xs=(x1 * 1000000000+x0) * 1000000000 ^ k+valB (xs.take k):=by
 have e0:=Zaw h0
 have e1:=Zaw h1
 rw [List.take_of_length_le (by omega),e0,Nat.pow_succ] at e1
 rw [e1,Nat.add_mul,Nat.mul_comm x0,Nat.mul_comm (x1 * 1000000000),← Nat.mul_assoc,Nat.mul_comm _ x1,← Nat.mul_assoc,Nat.mul_comm x1,Nat.mul_assoc,Nat.mul_comm x1]
 omega
theorem Zko {xs:List Nat} {k x0 x1 x2:Nat} (h0:xs[k]?=some x0) (h1:xs[k+1]?=some x1) (h2:xs[k+2]?=some x2) (hz:valB (xs.drop (k+3))=0):valB xs=((x2 * 1000000000+x1) * 1000000000+x0) * 1000000000 ^ k+valB (xs.take k):=by
 have e0:=Zaw h0
 have e1:=Zaw h1
 have e2:=Zaw h2
 have e3:=Zbc xs (k+3)
 rw [hz,Nat.mul_zero,Nat.add_zero] at e3
 have p1:1000000000 ^ (k+1)=1000000000 ^ k * 1000000000:=Nat.pow_succ ..
 have p2:1000000000 ^ (k+2)=1000000000 ^ k * 1000000000 * 1000000000:=by rw [Nat.pow_succ,Nat.pow_succ]
 rw [← e3,e2,e1,e0,p1,p2]
 clear e0 e1 e2 e3 p1 p2 h0 h1 h2 hz
 generalize 1000000000 ^ k=K
 generalize valB (xs.take k)=T
 grind
theorem Zsy {xs:List Nat} {k x0:Nat} (h0:xs[k]?=some x0) (hz:valB (xs.drop (k+1))=0):valB xs=valB (xs.take k)+1000000000 ^ k * x0:=by
 have e0:=Zaw h0
 have e3:=Zbc xs (k+1)
 rw [hz,Nat.mul_zero,Nat.add_zero] at e3
 omega
theorem Ziu {xs:List Nat} {k:Nat} (h:valB xs < 1000000000 ^ k):valB (xs.drop k)=0:=by
 have e:=Zbc xs k
 rcases Nat.lt_or_ge xs.length k with h1|h1
 ·rw [List.drop_eq_nil_of_le (by omega)];rfl
 ·rw [List.length_take,Nat.min_eq_left h1] at e
  rcases Nat.eq_zero_or_pos (valB (xs.drop k)) with h2|h2
  ·exact h2
  ·have:=Nat.mul_le_mul_left (1000000000 ^ k) h2
   omega
theorem Zsn {L P u0 q V W k:Nat} (_hL:L < P) (hV:V < P) (hW:L+P * u0+q * V=W+P * k) (hk:k≤u0) (hq:W / V≤q) (hV0:0 < V):q=W / V∧L=W % V:=by
 obtain ⟨j,rfl⟩:∃ j,u0=k+j:=⟨u0 - k,by omega⟩
 rw [Nat.mul_add] at hW
 have h1:L+P * j+q * V=W:=by omega
 have h2:q≤W / V:=by rw [Nat.le_div_iff_mul_le hV0];omega
 have h3:q=W / V:=by omega
 have h4:=Nat.div_add_mod' W V
 have h5:=Nat.mod_lt W hV0
 rw [← h3] at h4
 refine ⟨h3,?_⟩
 have h6:P * j=0:=by
  rcases Nat.eq_zero_or_pos j with h|h
  ·rw [h,Nat.mul_zero]
  ·have:=Nat.mul_le_mul_left P h
   omega
 omega
theorem Zxe {L P u0 q V W k L' o:Nat} (hL:L < P) (hV:V < P) (hW:L+P * u0+q * V=W+P * k) (hk:u0 < k) (hq:q≤W / V+1) (hV0:0 < V) (ho:L'+P * o=L+V) (hL':L' < P):q=W / V+1∧L'=W % V:=by
 obtain ⟨j,rfl⟩:∃ j,k=u0+1+j:=⟨k - u0 - 1,by omega⟩
 rw [Nat.mul_add,Nat.mul_add,Nat.mul_one] at hW
 have h1:W / V < q:=by
  rw [Nat.div_lt_iff_lt_mul hV0];omega
 have h2:q=W / V+1:=by omega
 have h4:=Nat.div_add_mod' W V
 have h5:=Nat.mod_lt W hV0
 refine ⟨h2,?_⟩
 rw [h2,Nat.succ_mul] at hW
 -- W % V + P + P j = L + V = L' + P o
 have h6:W % V+P * (j+1)=L'+P * o:=by rw [Nat.mul_add,Nat.mul_one];omega
 have h7:(W % V+P * (j+1)) % P=(L'+P * o) % P:=by rw [h6]
 rw [Nat.add_mul_mod_self_left,Nat.add_mul_mod_self_left,Nat.mod_eq_of_lt hL',Nat.mod_eq_of_lt (by omega)] at h7
 exact h7.symm
theorem Zyc {X P W V Q U0:Nat} (h:X+P * W+P * 1000000000 * (V * Q)=U0):X+P * (W % V)+P * (V * (W / V+1000000000 * Q))=U0:=by
 have h1:P * W=P * (V * (W / V))+P * (W % V):=by rw [← Nat.mul_add,Nat.div_add_mod]
 have h2:P * (V * (1000000000 * Q))=P * 1000000000 * (V * Q):=by rw [Nat.mul_left_comm V,Nat.mul_assoc]
 rw [Nat.mul_add V,Nat.mul_add P,h2]
 omega
theorem Zye {u V X:Nat} (hu:u < 1000000000) (h:X < V):u+1000000000 * X < 1000000000 * V:=by
 have:=Nat.mul_le_mul_left 1000000000 (show X+1≤V from h)
 omega
/-! ### roots -/
end Go.Sx
namespace Go.Sx
open Go
def signI (z:Int):Int:=if z < 0 then -1 else if z=0 then 0 else 1
def checkW (s:List UInt8):Int:=if (readW s).isSome then 0 else 10
def gcdI (x y:Int):Int:=(Nat.gcd x.natAbs y.natAbs:Nat)
def intW (s:List UInt8):Int × Int:=match readW s with
 | some x=>if -9223372036854775808≤x∧x≤9223372036854775807 then (x,0) else (0,6)
 | none=>(0,10)
/-! ### lengths -/
theorem Zej {k r:Nat} (hk:0 < k) (h:r < 10 ^ k):Lib.nDigits r≤k:=by
 obtain ⟨j,rfl⟩:∃ j,k=j+1:=⟨k - 1,by omega⟩
 exact Zbt h
theorem Zvb {z:Int} (h:Lib.nDigits z.natAbs≤600):outW z=(textI z,0):=by rw [outW,if_neg (by omega)]
/-! ### signs of a quotient -/
theorem Zpf {x y q r:Int} (h:r+y * q=x) (h0:0≤r) (h1:r < y.natAbs):x / y=q∧x % y=r:=by
 rcases Int.lt_or_gt_of_ne (show y≠0 by intro h;subst h;simp at h1;omega) with hy|hy
 ·have:=(Int.ediv_emod_unique (a:=x) (b:=-y) (r:=r) (q:=-q) (by omega)).2 ⟨by rw [Int.neg_mul_neg];exact h,h0,by omega⟩
  rw [Int.ediv_neg,Int.emod_neg] at this
  exact ⟨by omega,this.2⟩
 ·exact (Int.ediv_emod_unique (by omega)).2 ⟨h,h0,by omega⟩
theorem Zyd {x y:Int} (hy:y≠0) (h:¬ (x < 0∧x.natAbs % y.natAbs≠0)):x / y=(if (x < 0)≠(y < 0) then -((x.natAbs / y.natAbs:Nat):Int) else ((x.natAbs / y.natAbs:Nat):Int))∧x % y=((x.natAbs % y.natAbs:Nat):Int):=by
 have hm:=Nat.div_add_mod x.natAbs y.natAbs
 have hl:=Nat.mod_lt x.natAbs (show 0 < y.natAbs by omega)
 generalize x.natAbs / y.natAbs=Q at hm ⊢
 generalize x.natAbs % y.natAbs=R at hm hl h ⊢
 have hz:((y.natAbs:Int) * (Q:Int))+(R:Int)=(x.natAbs:Int):=by rw [← hm];simp
 refine Zpf ?_ (by omega) (by omega)
 by_cases h1:x < 0<;>by_cases h2:y < 0
 ·rw [if_neg (by simp [h1,h2])]
  rw [show (y.natAbs:Int)=-y by omega,Int.neg_mul] at hz
  omega
 ·rw [if_pos (by simp [h1,h2])]
  rw [show (y.natAbs:Int)=y by omega] at hz
  rw [Int.mul_neg]
  omega
 ·rw [if_pos (by simp [h1,h2])]
  rw [show (y.natAbs:Int)=-y by omega,Int.neg_mul] at hz
  rw [Int.mul_neg]
  omega
 ·rw [if_neg (by simp [h1,h2])]
  rw [show (y.natAbs:Int)=y by omega] at hz
  omega
theorem Zkw {x y:Int} (hy:y≠0) (hx:x < 0) (h:x.natAbs % y.natAbs≠0):x / y=(if y < 0 then ((x.natAbs / y.natAbs+1:Nat):Int) else -((x.natAbs / y.natAbs+1:Nat):Int))∧x % y=((y.natAbs - x.natAbs % y.natAbs:Nat):Int):=by
 have hm:=Nat.div_add_mod x.natAbs y.natAbs
 have hl:=Nat.mod_lt x.natAbs (show 0 < y.natAbs by omega)
 generalize x.natAbs / y.natAbs=Q at hm ⊢
 generalize x.natAbs % y.natAbs=R at hm hl h ⊢
 have hz:((y.natAbs:Int) * (Q:Int))+(R:Int)=(x.natAbs:Int):=by rw [← hm];simp
 refine Zpf ?_ (by omega) (by omega)
 by_cases h2:y < 0
 ·rw [if_pos h2]
  rw [show (y.natAbs:Int)=-y by omega,Int.neg_mul] at hz
  rw [Int.natCast_add,Int.mul_add]
  omega
 ·rw [if_neg h2]
  rw [show (y.natAbs:Int)=y by omega] at hz
  rw [Int.mul_neg,Int.natCast_add,Int.mul_add]
  omega
/-! ### signs of a power -/
/-! ### integers out of texts -/
theorem Zzr {c:UInt8} {r:List UInt8}:numOf (c::r)=dig c * 10 ^ r.length+numOf r:=by
 have:=Zci (a:=[c]) (b:=r)
 rw [List.singleton_append] at this
 rw [this]
 congr 1
 simp [numOf]
theorem Zi8:∀ (l:List UInt8) (acc:Nat),(∀ c∈l,isDig c=true)→acc≤18446744073709551615→Lib.parseUintM 18446744073709551615 acc l=if acc * 10 ^ l.length+numOf l≤18446744073709551615 then .ok (acc * 10 ^ l.length+numOf l) else .range
 | [],acc,_,h=>by simp [Lib.parseUintM,numOf,h]
 | c :: r,acc,hd,h=>by
  have hc:=Zjg.1 (hd c (List.mem_cons_self ..))
  have hp:0 < 10 ^ r.length:=Nat.pow_pos (by omega)
  have e:acc * 10 ^ (c::r).length+numOf (c::r)=(acc * 10+(c.toNat - 48)) * 10 ^ r.length+numOf r:=by
   rw [Zzr,dig,List.length_cons,Nat.pow_succ,Nat.add_mul,← Nat.mul_assoc,Nat.mul_right_comm acc]
   omega
  have hge:acc * 10+(c.toNat - 48)≤(acc * 10+(c.toNat - 48)) * 10 ^ r.length:=Nat.le_mul_of_pos_right _ hp
  rw [Lib.parseUintM,if_pos hc,e]
  by_cases h1:1844674407370955162≤acc
  ·rw [if_pos h1,if_neg (by omega)]
  ·rw [if_neg h1]
   by_cases h2:18446744073709551615 < acc * 10+(c.toNat - 48)
   ·rw [if_pos h2,if_neg (by omega)]
   ·rw [if_neg h2]
    exact Zi8 r _ (fun x hx=>hd x (List.mem_cons_of_mem _ hx)) (by omega)
theorem Zmf {s:List UInt8} {z:Int} (h:readW s=some z):Lib.parseIntB 64 s=if -9223372036854775808≤z∧z≤9223372036854775807 then .ok z else .range:=by
 cases s with
 | nil=>simp [readW,Lib.hasPrefix] at h
 | cons c r =>
  unfold readW at h
  rw [Zbe] at h
  unfold Lib.parseIntB
  simp only []
  have pU:∀ l:List UInt8,l≠[]→(∀ c∈l,isDig c=true)→Lib.parseUintB 64 l=if numOf l≤18446744073709551615 then .ok (numOf l) else .range:=fun l h0 h1=>by
   unfold Lib.parseUintB
   rw [if_neg h0]
   have:=Zi8 l 0 h1 (by omega)
   simpa using this
  by_cases hc:c=45
  ·subst hc
   simp only [decide_true,if_true,List.drop_succ_cons,List.drop_zero] at h
   split at h
   ·rename_i h5
    cases h
    have h45:(45:UInt8).toNat=45:=rfl
    rw [if_pos (.inr h45),pU r (by intro h0;rw [h0] at h5;simp at h5) h5.2.2.1]
    by_cases h6:numOf r≤18446744073709551615
    ·rw [if_pos h6]
     simp only [h45,not_true_eq_false,false_and,if_false,true_and]
     by_cases h7:2 ^ 63 < numOf r
     ·rw [if_pos h7,if_neg (by omega)]
     ·rw [if_neg h7]
      simp only [if_true]
      rw [if_pos (by omega)]
    ·rw [if_neg h6]
     simp only []
     rw [if_neg (by omega)]
   ·cases h
  ·simp only [hc,decide_false,Bool.false_eq_true,if_false] at h
   split at h
   ·rename_i h5
    cases h
    have hcd:=Zjg.1 (h5.2.2.1 c (List.mem_cons_self ..))
    have h45:¬ c.toNat=45:=by omega
    rw [if_neg (by omega),pU (c::r) (by simp) h5.2.2.1]
    by_cases h6:numOf (c::r)≤18446744073709551615
    ·rw [if_pos h6]
     simp only [h45,not_false_eq_true,true_and,false_and,if_false]
     by_cases h7:2 ^ 63≤numOf (c::r)
     ·rw [if_pos h7,if_neg (by omega)]
     ·rw [if_neg h7,if_pos (by omega)]
    ·rw [if_neg h6]
     simp only []
     rw [if_neg (by omega)]
   ·cases h
end Go.Sx
namespace Go.Sx
open Go
def valQ:List Nat→Nat
 | []=>0
 | d::r=>d+10000 * valQ r
def qud (n:Nat):List Nat:=if h:n=0 then [] else n % 10000::qud (n / 10000)
termination_by n
decreasing_by omega
theorem Zbh:qud 0=[]:=by rw [qud,dif_pos rfl]
theorem Zgw {n:Nat} (h:n≠0):qud n=n % 10000::qud (n / 10000):=by rw [qud,dif_neg h]
theorem Zu7 {p:Nat→Prop} (h0:p 0) (h1:∀ n,n≠0→p (n / 10000)→p n) (n:Nat):p n:=by
 induction n using Nat.strongRecOn with
 | _ n ih =>
  by_cases h:n=0
  ·subst h;exact h0
  ·exact h1 n h (ih _ (by omega))
theorem Za0 (n:Nat):valQ (qud n)=n:=by
 induction n using Zu7 with
 | h0=>rw [Zbh];rfl
 | h1 n h ih=>rw [Zgw h,valQ,ih];omega
theorem Za4 (n:Nat):∀ d∈qud n,d < 10000:=by
 induction n using Zu7 with
 | h0=>rw [Zbh];intro d hd;cases hd
 | h1 n h ih =>
  rw [Zgw h]
  intro d hd
  rcases List.mem_cons.1 hd with rfl|hd
  ·omega
  ·exact ih d hd
theorem Yaf {n:Nat}:qud n=[]↔n=0:=by
 constructor
 ·intro h
  have:=Za0 n
  rw [h] at this
  exact this.symm
 ·rintro rfl;exact Zbh
theorem Zxh {n:Nat}:(qud n).length=0↔n=0:=by rw [List.length_eq_zero_iff,Yaf]
theorem Zl2:∀ {xs:List Nat},(∀ d∈xs,d < 10000)→trimL xs=qud (valQ xs)
 | [],_=>by rw [valQ,Zbh];rfl
 | d :: r,h=>by
  have ih:=Zl2 (xs:=r) fun x hx=>h x (List.mem_cons_of_mem _ hx)
  have hd:=h d (List.mem_cons_self ..)
  rw [trimL,ih,valQ]
  by_cases hv:valQ r=0
  ·rw [hv,Zbh]
   by_cases h0:d=0
   ·subst h0;rw [Zbh];rfl
   ·simp only [if_neg h0,Nat.mul_zero,Nat.add_zero]
    rw [Zgw h0,Nat.mod_eq_of_lt hd,Nat.div_eq_of_lt hd,Zbh]
  ·have h1:qud (d+10000 * valQ r)=d::qud (valQ r):=by
    rw [Zgw (by omega)]
    rw [show (d+10000 * valQ r) % 10000=d by omega,show (d+10000 * valQ r) / 10000=valQ r by omega]
   rw [h1]
   cases hm:qud (valQ r) with
   | nil=>exact absurd (Yaf.1 hm) hv
   | cons x s=>rfl
theorem Zcg:∀ {xs ys:List Nat},valQ (xs++ys)=valQ xs+10000 ^ xs.length * valQ ys
 | [],ys=>by simp [valQ]
 | d::r,ys=>by
  rw [List.cons_append,valQ,Zcg (xs:=r),valQ,List.length_cons,Nat.pow_succ,Nat.mul_add,Nat.mul_comm (10000 ^ r.length) 10000,Nat.mul_assoc]
  omega
theorem Zlz:∀ {xs:List Nat},(∀ d∈xs,d < 10000)→valQ xs < 10000 ^ xs.length
 | [],_=>by simp [valQ]
 | d::r,h=>by
  have ih:=Zlz (xs:=r) fun x hx=>h x (List.mem_cons_of_mem _ hx)
  have hd:=h d (List.mem_cons_self ..)
  rw [valQ,List.length_cons,Nat.pow_succ]
  omega
theorem Zeo {xs:List Nat} {i d:Nat} (h:xs[i]?=some d):valQ (xs.take (i+1))=valQ (xs.take i)+10000 ^ i * d:=by
 have hi:=(List.getElem?_eq_some_iff.1 h).1
 rw [List.take_succ_eq_append_getElem hi,Zcg,(List.getElem?_eq_some_iff.1 h).2]
 simp only [List.length_take,Nat.min_eq_left (Nat.le_of_lt hi),valQ,Nat.mul_zero,Nat.add_zero]
theorem Zp8 (n:Nat):∀ i,(qud n).drop i=qud (n / 10000 ^ i)
 | 0=>by simp
 | i+1=>by
  have ih:=Zp8 n i
  rw [← List.drop_drop,ih,Nat.pow_succ,← Nat.div_div_eq_div_mul]
  by_cases h:n / 10000 ^ i=0
  ·rw [h,Zbh];simp
  ·rw [Zgw h];rfl
theorem Zj0 {n i d:Nat} (h:(qud n)[i]?=some d):n / 10000 ^ i=d+10000 * (n / 10000 ^ (i+1))∧n / 10000 ^ i≠0∧d < 10000:=by
 have h1:(qud (n / 10000 ^ i))[0]?=some d:=by rw [← Zp8,List.getElem?_drop,Nat.add_zero,h]
 have h0:n / 10000 ^ i≠0:=fun h0=>by rw [h0,Zbh] at h1;cases h1
 rw [Zgw h0] at h1
 simp only [List.getElem?_cons_zero,Option.some.injEq] at h1
 have h2:n / 10000 ^ (i+1)=n / 10000 ^ i / 10000:=by rw [Nat.pow_succ,Nat.div_div_eq_div_mul]
 refine ⟨?_,h0,by omega⟩
 rw [h2];omega
theorem Zbi (n:Nat):n < 10000 ^ (qud n).length:=by
 have:=Zlz (Za4 n)
 rwa [Za0] at this
theorem Zei {n:Nat} (h:n≠0):10000 ^ ((qud n).length - 1)≤n:=by
 induction n using Zu7 with
 | h0=>exact absurd rfl h
 | h1 n h ih =>
  rw [Zgw h,List.length_cons,Nat.add_sub_cancel]
  by_cases h1:n / 10000=0
  ·rw [h1,Zbh];simp;omega
  ·have h2:=ih h1
   have h3:(qud (n / 10000)).length≠0:=fun h=>h1 (Zxh.1 h)
   have e:(qud (n / 10000)).length=(qud (n / 10000)).length - 1+1:=by omega
   rw [e,Nat.pow_succ]
   omega
theorem Zcb {a b:Nat} (h:a≤b):(qud a).length≤(qud b).length:=by
 by_cases ha:a=0
 ·subst ha;rw [Zbh];exact Nat.zero_le _
 ·have h1:=Zei ha
  have h2:=Zbi b
  rcases Nat.lt_or_ge (qud b).length (qud a).length with h3|h3
  ·have h4:=Nat.pow_le_pow_right (n:=10000) (by omega) (show (qud b).length≤(qud a).length - 1 by omega)
   omega
  ·exact h3
end Go.Sx
namespace Go.Sx
open Go
def grpQ (l:List UInt8):List Nat:=if h:l.length≤4 then [numOf l] else numOf (l.drop (l.length - 4))::grpQ (l.take (l.length - 4))
termination_by l.length
decreasing_by simp;omega
theorem Zvw {l:List UInt8} (h:l.length≤4):grpQ l=[numOf l]:=by rw [grpQ,dif_pos h]
theorem Z3p {l:List UInt8} (h:¬ l.length≤4):grpQ l=numOf (l.drop (l.length - 4))::grpQ (l.take (l.length - 4)):=by rw [grpQ,dif_neg h]
theorem Z3o (k:Nat):∀ {l:List UInt8},l.length≤k→(∀ c∈l,isDig c=true)→valQ (grpQ l)=numOf l∧∀ d∈grpQ l,d < 10000:=by
 induction k with
 | zero =>
  intro l hl _
  have:l=[]:=List.length_eq_zero_iff.1 (by omega)
  subst this
  rw [Zvw (by simp)]
  simp [valQ,numOf]
 | succ k ih =>
  intro l hl hd
  by_cases h:l.length≤4
  ·rw [Zvw h]
   have h1:=Zdt hd
   have h2:=Nat.pow_le_pow_right (n:=10) (by omega) h
   refine ⟨by simp [valQ],fun d hm=>?_⟩
   rw [List.mem_singleton.1 hm]
   omega
  ·rw [Z3p h]
   obtain ⟨h1,h2⟩:=ih (l:=l.take (l.length - 4)) (by simp;omega) fun c hc=>hd c (List.mem_of_mem_take hc)
   have hld:(l.drop (l.length - 4)).length=4:=by simp;omega
   have h3:=Zdt (l:=l.drop (l.length - 4)) fun c hc=>hd c (List.mem_of_mem_drop hc)
   rw [hld] at h3
   refine ⟨?_,fun d hm=>?_⟩
   ·have h4:=Zci (a:=l.take (l.length - 4)) (b:=l.drop (l.length - 4))
    rw [List.take_append_drop,hld] at h4
    rw [valQ,h1,h4]
    omega
   ·rcases List.mem_cons.1 hm with rfl|hm
    ·omega
    ·exact h2 d hm
theorem Zyj:∀ (k:Nat) {l:List UInt8},l.length=k→(∀ c∈l,isDig c=true)→l≠[]→l[0]?≠some 48→l=Lib.decDigits (numOf l):=by
 intro k
 induction k with
 | zero=>intro l hl _ h _;exact absurd (List.length_eq_zero_iff.1 hl) h
 | succ k ih =>
  intro l hl hd hne h0
  rcases List.eq_nil_or_concat l with rfl|⟨xs,c,rfl⟩
  ·exact absurd rfl hne
  ·rw [List.concat_eq_append] at *
   have hc:=hd c (by simp)
   have hci:=Zjg.1 hc
   have hcd:UInt8.ofNat (48+dig c)=c:=by
    have:48+dig c=c.toNat:=by unfold dig;omega
    rw [this];simp
   by_cases hx:xs=[]
   ·subst hx
    have h1:numOf ([]++[c])=dig c:=by simp [numOf]
    rw [h1,Zb7 (Z35 hc),hcd];rfl
   ·have hl':xs.length=k:=by simp at hl;exact hl
    have h1:xs[0]?≠some 48:=fun h=>h0 (by rw [List.getElem?_append_left (List.length_pos_iff.2 hx)];exact h)
    have ih':=ih hl' (fun d hm=>hd d (List.mem_append_left _ hm)) hx h1
    have hp:=Zfp (l:=xs) (fun d hm=>hd d (List.mem_append_left _ hm)) (List.length_pos_iff.2 hx) h1
    have hdl:=Z35 hc
    rw [Zdm,Zkb (by omega),show (numOf xs * 10+dig c) / 10=numOf xs by omega,show (numOf xs * 10+dig c) % 10=dig c by omega,hcd,← ih']
theorem Zmg:∀ k r,(pad k r).length=k
 | 0,_=>rfl
 | k+1,r=>by rw [pad,List.length_append,Zmg k];rfl
theorem Z2k:∀ k r,∀ c∈pad k r,isDig c=true
 | 0,_,c,h=>by cases h
 | k+1,r,c,h=>by
  rw [pad] at h
  rcases List.mem_append.1 h with h|h
  ·exact Z2k k _ c h
  ·rw [List.mem_singleton.1 h];exact (Zkx (show r % 10 < 10 by omega)).2.1
theorem Z2j : ∀ k r,r < 10 ^ k→numOf (pad k r)=r
 | 0, r, h => by have:r=0:=by simpa using h
                 subst this;rfl
 | k+1,r,h=>by
  rw [Nat.pow_succ] at h
  rw [pad,Zdm,Z2j k _ (by omega),(Zkx (show r % 10 < 10 by omega)).1]
  omega
def fullQ (D:List Nat):List UInt8:=D.reverse.flatMap (pad 4)
theorem Zhq {d:Nat} {D:List Nat}:fullQ (d::D)=fullQ D++pad 4 d:=by simp [fullQ]
theorem Zti:∀ D,(fullQ D).length=4 * D.length
 | []=>rfl
 | d::D=>by rw [Zhq,List.length_append,Zti D,Zmg,List.length_cons];omega
theorem Ztj:∀ D,∀ c∈fullQ D,isDig c=true
 | [],c,h=>by cases h
 | d::D,c,h=>by
  rw [Zhq] at h
  rcases List.mem_append.1 h with h|h
  ·exact Ztj D c h
  ·exact Z2k 4 d c h
theorem Zth:∀ D,(∀ d∈D,d < 10000)→numOf (fullQ D)=valQ D
 | [],_=>rfl
 | d::D,h=>by
  rw [Zhq,Zci,Zth D fun x hx=>h x (List.mem_cons_of_mem _ hx),Zmg,Z2j 4 d (h d (List.mem_cons_self ..)),valQ]
  omega
theorem Zr9 {l:List UInt8} {k:Nat} (hd:∀ c∈l,isDig c=true) (hk:k≤l.length) (hz:∀ (j:Nat) (c:UInt8),j < k→l[j]?=some c→c=48) (hn:l[k]?≠some 48):l.drop k=if numOf l=0 then [] else Lib.decDigits (numOf l):=by
 have hz':numOf (l.take k)=0:=by
  have:∀ m,m≤k→numOf (l.take m)=0:=by
   intro m
   induction m with
   | zero=>intro _;rfl
   | succ m ih =>
    intro hm
    obtain ⟨c,hc⟩:∃ c,l[m]?=some c:=⟨_,List.getElem?_eq_getElem (by omega)⟩
    rw [List.take_add_one,hc,Option.toList_some,Zdm,ih (by omega),hz m c (by omega) hc]
    rfl
  exact this k (Nat.le_refl _)
 have hnum:numOf l=numOf (l.drop k):=by
  have:=Zci (a:=l.take k) (b:=l.drop k)
  rw [List.take_append_drop,hz'] at this
  omega
 have hdd:∀ c∈l.drop k,isDig c=true:=fun c hc=>hd c (List.mem_of_mem_drop hc)
 have h0:(l.drop k)[0]?≠some 48:=by rw [List.getElem?_drop,Nat.add_zero];exact hn
 rw [hnum]
 by_cases he:l.drop k=[]
 ·rw [he];rfl
 ·have hp:=Zfp hdd (List.length_pos_iff.2 he) h0
  rw [if_neg (by omega)]
  exact Zyj _ rfl hdd he h0
theorem Zb4 (z:Int):textI z=if z < 0 then 45::Lib.decDigits z.natAbs else Lib.decDigits z.natAbs:=by
 unfold textI Lib.itoa
 split
 ·rfl
 ·rw [show z.toNat=z.natAbs by omega]
end Go.Sx
namespace Go.Sx
open Go
theorem Zkn {xs:List Nat} {i:Nat} (h:xs.length≤i):valQ (xs.take i)=valQ xs:=by rw [List.take_of_length_le h]
theorem Zhd {xs:List Nat} {i d:Nat} (h:∀ x∈xs,x < 10000) (hd:d < 10000):∀ x∈xs.set i d,x < 10000:=fun x hx=>by
 rcases List.mem_or_eq_of_mem_set hx with h1|h1
 ·exact h x h1
 ·omega
/-! ### a group is changed -/
theorem Zpx:∀ {xs:List Nat} {k p g:Nat},xs[k]?=some p→valQ (xs.set k g)+10000 ^ k * p=valQ xs+10000 ^ k * g
 | [],k,p,g,h=>by simp at h
 | x::xs,0,p,g,h=>by
  simp only [List.getElem?_cons_zero,Option.some.injEq] at h
  subst h
  simp only [List.set_cons_zero,valQ,Nat.pow_zero,Nat.one_mul]
  omega
 | x::xs,k+1,p,g,h=>by
  simp only [List.getElem?_cons_succ] at h
  have ih:=Zpx (g:=g) h
  simp only [List.set_cons_succ,valQ,Nat.pow_succ]
  rw [Nat.mul_comm (10000 ^ k) 10000,Nat.mul_assoc,Nat.mul_assoc]
  omega
theorem Zr2 (xs:List Nat) (k:Nat):valQ (xs.take k)+10000 ^ (xs.take k).length * valQ (xs.drop k)=valQ xs:=by
 rw [← Zcg,List.take_append_drop]
theorem Zup {xs:List Nat} {k d:Nat} (h:xs[k]?=some d):10000 ^ k * d≤valQ xs:=by
 have h1:=Zeo h
 have h2:=Zr2 xs (k+1)
 omega
theorem Zpy {xs:List Nat} {n k d:Nat} (h:valQ xs < 10000 ^ n) (hk:n≤k) (hd:xs[k]?=some d):d=0:=by
 have h1:=Zup hd
 have h2:=Nat.pow_le_pow_right (n:=10000) (by omega) hk
 rcases Nat.eq_zero_or_pos d with h3|h3
 ·exact h3
 ·have:=Nat.mul_le_mul_left (10000 ^ k) h3
  omega
theorem Zl0 {xs:List Nat} {i d:Nat} (h:xs[i]?=some d):valQ (xs.drop i)=d+10000 * valQ (xs.drop (i+1)):=by
 obtain ⟨hi,he⟩:=List.getElem?_eq_some_iff.1 h
 rw [List.drop_eq_getElem_cons hi,he,valQ]
theorem Zh3:∀ n,valQ (List.replicate n 0)=0
 | 0=>rfl
 | n+1=>by rw [List.replicate_succ,valQ,Zh3 n]
theorem Zjx (n:Nat):∀ x∈List.replicate n 0,x < 10000:=fun x h=>by rw [List.eq_of_mem_replicate h];decide
/-! ### products -/
theorem Zus {V V' P c p t de A:Nat} (hs:V'+P * p=V+P * (t % 10000)) (ht:t=c+p+de) (hv:V+P * c=A):V'+P * 10000 * (t / 10000)=A+P * de:=by
 have h1:P * (t % 10000)+P * 10000 * (t / 10000)=P * t:=by
  rw [Nat.mul_assoc,← Nat.mul_add];congr 1;omega
 have h2:P * t=P * c+P * p+P * de:=by rw [ht,Nat.mul_add,Nat.mul_add]
 omega
theorem Zf7 (a b:Nat):(qud (a * b)).length≤(qud a).length+(qud b).length:=by
 have h1:=Zbi a
 have h2:=Zbi b
 by_cases h0:a * b=0
 ·rw [h0,Zbh];simp
 ·have h3:=Zei h0
  have h4:a * b < 10000 ^ ((qud a).length+(qud b).length):=by
   rw [Nat.pow_add]
   have hb:0 < b:=Nat.pos_of_ne_zero fun h=>h0 (by rw [h,Nat.mul_zero])
   exact Nat.lt_of_lt_of_le (Nat.mul_lt_mul_of_pos_right h1 hb) (Nat.mul_le_mul_left _ (Nat.le_of_lt h2))
  rcases Nat.lt_or_ge ((qud a).length+(qud b).length) (qud (a * b)).length with h5|h5
  ·have:=Nat.pow_le_pow_right (n:=10000) (by omega) (show (qud a).length+(qud b).length≤(qud (a * b)).length - 1 by omega)
   omega
  ·exact h5
theorem Zbj {n k:Nat} (h:n < 10000 ^ k):(qud n).length≤k:=by
 by_cases h0:n=0
 ·rw [h0,Zbh];simp
 ·have h1:=Zei h0
  rcases Nat.lt_or_ge k (qud n).length with h2|h2
  ·have:=Nat.pow_le_pow_right (n:=10000) (by omega) (show k≤(qud n).length - 1 by omega)
   omega
  ·exact h2
/-! ### a number by one group -/
theorem Zuu {Q d r M g cur:Nat} (hv:Q * d+r=M) (hc:cur=r * 10000+g):(cur / d+10000 * Q) * d+cur % d=g+10000 * M:=by
 have h1:=Nat.div_add_mod' cur d
 rw [Nat.add_mul,Nat.mul_assoc,← hv,Nat.mul_add]
 omega
end Go.Sx
namespace Go.Sx
open Go
structure V3 where
 x:Int
 y:Int
 z:Int
deriving DecidableEq
def V3.val (p:V3):Value:=.agg #[.int .i64 p.x,.int .i64 p.y,.int .i64 p.z]
def cV3:Cod V3:=⟨3,fun p=>[.int .i64 p.x,.int .i64 p.y,.int .i64 p.z],fun _=>rfl,fun p v hv=>by
 simp only [List.mem_cons,List.not_mem_nil,or_false] at hv
 rcases hv with rfl|rfl|rfl<;>rfl⟩
instance {p:V3}:EncL cV3 p [.int .i64 p.x,.int .i64 p.y,.int .i64 p.z]:=⟨rfl⟩
instance {a b d:Int}:DecL cV3 [.int .i64 a,.int .i64 b,.int .i64 d] ⟨a,b,d⟩:=⟨rfl⟩
def V3.ok (p:V3):Prop:=IR .i64 p.x∧IR .i64 p.y∧IR .i64 p.z

theorem Zg4 {α:Type} {p:α→Bool} {l:List α} (h:∀ (j:Nat) (x:α),l[j]?=some x→p x=false):l.findIdx? p=none:=by
 rw [List.findIdx?_eq_none_iff]
 intro x hx
 obtain ⟨j,hj⟩:=List.mem_iff_getElem?.1 hx
 exact h j x hj
theorem Zft {α:Type} {p:α→Bool} {l:List α} {k:Nat} {x:α} (hk:l[k]?=some x) (hx:p x=true) (h:∀ (j:Nat) (y:α),j < k→l[j]?=some y→p y=false):l.findIdx? p=some k:=by
 rw [List.findIdx?_eq_some_iff_getElem]
 obtain ⟨hlt,he⟩:=List.getElem?_eq_some_iff.1 hk
 refine ⟨hlt,by rw [he];exact hx,fun j hj=>?_⟩
 have:=h j _ hj (List.getElem?_eq_getElem (by omega))
 simp [this]
def found (o:Option Nat):Value:=.tuple #[.int .i64 ((o.getD 0:Nat):Int),.bool o.isSome]

def isFar (p:V3):Bool:=decide (p.x < -200000)||decide (200000 < p.x)||decide (p.y < -200000)||decide (200000 < p.y)||decide (p.z < -200000)||decide (200000 < p.z)
def farF (pts:List V3):Option Nat:=pts.findIdx? isFar
def isWrong (n:Nat) (f:V3):Bool:=decide (f.x < 0)||decide ((n:Int)≤f.x)||decide (f.y < 0)||decide ((n:Int)≤f.y)||decide (f.z < 0)||decide ((n:Int)≤f.z)||decide (f.x=f.y)||decide (f.y=f.z)||decide (f.z=f.x)
def wrongF (n:Nat) (fcs:List V3):Option Nat:=fcs.findIdx? (isWrong n)
def V3.sub (a b:V3):V3:=⟨a.x - b.x,a.y - b.y,a.z - b.z⟩
def V3.cross (a b:V3):V3:=⟨a.y * b.z - a.z * b.y,a.z * b.x - a.x * b.z,a.x * b.y - a.y * b.x⟩
def V3.dot (a b:V3):Int:=a.x * b.x+a.y * b.y+a.z * b.z
def V3.zero:V3:=⟨0,0,0⟩
def ptAt (pts:List V3) (i:Int):V3:=(pts[i.toNat]?).getD V3.zero
def normal (pts:List V3) (f:V3):V3:=((ptAt pts f.y).sub (ptAt pts f.x)).cross ((ptAt pts f.z).sub (ptAt pts f.x))
def isFlat (pts:List V3) (f:V3):Bool:=decide (normal pts f=V3.zero)
def flatF (pts fcs:List V3):Option Nat:=fcs.findIdx? (isFlat pts)
def V3.in (n:Int) (p:V3):Prop:=-n≤p.x∧p.x≤n∧-n≤p.y∧p.y≤n∧-n≤p.z∧p.z≤n
theorem Za5 {a b m n:Int} (hm:0≤m) (hn:0≤n) (h1:-m≤a) (h2:a≤m) (h3:-n≤b) (h4:b≤n):-(m * n)≤a * b∧a * b≤m * n:=by
 have e1:a * b≤m * n∧-(m * n)≤a * b:=by
  rcases Int.le_total 0 a with ha|ha<;>rcases Int.le_total 0 b with hb|hb
  ·have p1:=Int.mul_le_mul h2 h4 hb hm
   have p2:=Int.mul_nonneg ha hb
   have p3:=Int.mul_nonneg hm hn
   omega
  ·have hb':0≤-b:=by omega
   have p1:=Int.mul_le_mul h2 (show -b≤n by omega) hb' hm
   have p2:=Int.mul_nonneg ha hb'
   have p3:=Int.mul_nonneg hm hn
   have e:a * -b=-(a * b):=Int.mul_neg a b
   omega
  ·have ha':0≤-a:=by omega
   have p1:=Int.mul_le_mul (show -a≤m by omega) h4 hb hm
   have p2:=Int.mul_nonneg ha' hb
   have p3:=Int.mul_nonneg hm hn
   have e:-a * b=-(a * b):=Int.neg_mul a b
   omega
  ·have ha':0≤-a:=by omega
   have hb':0≤-b:=by omega
   have p1:=Int.mul_le_mul (show -a≤m by omega) (show -b≤n by omega) hb' hm
   have p2:=Int.mul_nonneg ha' hb'
   have p3:=Int.mul_nonneg hm hn
   have e:-a * -b=a * b:=by rw [Int.neg_mul_neg]
   omega
 exact ⟨e1.2,e1.1⟩
theorem Zdy {m n:Int} {a b:V3} (h:a.in m) (k:b.in n):(a.sub b).in (m+n):=by
 obtain ⟨h1,h2,h3,h4,h5,h6⟩:=h
 obtain ⟨k1,k2,k3,k4,k5,k6⟩:=k
 refine ⟨?_,?_,?_,?_,?_,?_⟩<;>simp only [V3.sub]<;>omega
theorem Zd8 {m n:Int} (hm:0≤m) (hn:0≤n) {a b:V3} (h:a.in m) (k:b.in n):(a.cross b).in (2 * (m * n)):=by
 obtain ⟨h1,h2,h3,h4,h5,h6⟩:=h
 obtain ⟨k1,k2,k3,k4,k5,k6⟩:=k
 have a1:=Za5 hm hn h3 h4 k5 k6
 have a2:=Za5 hm hn h5 h6 k3 k4
 have a3:=Za5 hm hn h5 h6 k1 k2
 have a4:=Za5 hm hn h1 h2 k5 k6
 have a5:=Za5 hm hn h1 h2 k3 k4
 have a6:=Za5 hm hn h3 h4 k1 k2
 refine ⟨?_,?_,?_,?_,?_,?_⟩<;>simp only [V3.cross]<;>omega
/-! comparing points -/
class NG (P:Program) (t:TypeId):Prop where
 h:P.eqGuardType P.depth t=false
section
variable {P:Program} {N:Ctx} {w0:World} {e:Env} {As:List Ent} {ty:TypeId} {x y:Operand} {w:World}
theorem Zp3 {t:TypeId} {k:IntKind} [UL P t (.int k)] (d:Nat) (a b:Int):(Op.equalIn (d+1) t (.int k a) (.int k b)).run P w=.ok (a == b) w:=by
 simp [Op.equalIn,Zar]
theorem Zi2 {t:TypeId} {k:IntKind} [UL P t (.int k)] (cs:Array Value) (i:Nat) {v:Value} (h:cs[i]?=some v):(part t cs i).run P w=.ok v w:=by
 simp [part,Zd5,aggB,h]
theorem Zcm {p q:V3}:p=q↔p.x=q.x∧p.y=q.y∧p.z=q.z:=by
 cases p;cases q;simp
theorem Zsi {t el:TypeId} {z:Value} {b:Nat} [UL P t (.array 3 el)] [UL P el (.int .i64)] [TI P el z 1 b] (d:Nat) (p q:V3):(Op.equalIn (d+1+1) t p.val q.val).run P w=.ok (decide (p=q)) w:=by
 have hp:∀ (r:V3) (i:Nat) (v:Value),(#[Value.int .i64 r.x,.int .i64 r.y,.int .i64 r.z]:Array Value)[i]?=some v→(part el #[Value.int .i64 r.x,.int .i64 r.y,.int .i64 r.z] i).run P w=.ok v w:=fun r i v h=>Zi2 _ _ h
 have p0:=fun r=>hp r 0 _ rfl
 have p1:=fun r=>hp r 1 _ rfl
 have p2:=fun r=>hp r 2 _ rfl
 unfold Op.equalIn
 simp only [V3.val,Sem.run_bind,Zar,Result.andThen_ok]
 simp only [Za9,Result.andThen_ok]
 simp [Std.Legacy.Range.forIn_eq_forIn_range',List.range'_succ,p0,p1,p2,Zp3,Zcm]
 by_cases h0:p.x=q.x<;>by_cases h1:p.y=q.y<;>by_cases h2:p.z=q.z<;>simp [h0,h1,h2]
theorem Zw9 {t el:TypeId} {z:Value} {b:Nat} [UL P t (.array 3 el)] [UL P el (.int .i64)] [TI P el z 1 b] (p q:V3):(Op.equal t p.val q.val).run P w=.ok (decide (p=q)) w:=Zsi 9998 p q
theorem Zmb {t:TypeId} [h:NG P t] (op:BinOp) (x y:Operand) (p q:V3):(eqGuard op t x y p.val q.val).run P w=.ok () w:=by
 unfold eqGuard
 cases op<;>simp [V3.val,h.h]
theorem Zui {t el t':TypeId} {z:Value} {b:Nat} [UL P t (.array 3 el)] [UL P el (.int .i64)] [TI P el z 1 b] [NG P t] (p q:V3) (hx:ev e x=some p.val) (hy:ev e y=some q.val):ExF P N w0 (.binOp .eql t x y t') ty e As (.bool (decide (p=q))):=by
 unfold ExF
 intro a w ha hs d pos af g
 have h1:binOp .eql t p.val q.val=(do pure (.bool (← Op.equal t p.val q.val))):=rfl
 simp only [execOp,ha.eval hx,ha.eval hy,Sem.run_bind,Zmb,Result.andThen_ok,h1,Zw9]
 rfl
theorem Zud {t el t':TypeId} {z:Value} {b:Nat} [UL P t (.array 3 el)] [UL P el (.int .i64)] [TI P el z 1 b] [NG P t] (p q:V3) (hx:ev e x=some p.val) (hy:ev e y=some q.val):ExF P N w0 (.binOp .neq t x y t') ty e As (.bool !(decide (p=q))):=by
 unfold ExF
 intro a w ha hs d pos af g
 have h1:binOp .neq t p.val q.val=(do pure (.bool (!(← Op.equal t p.val q.val)))):=rfl
 simp only [execOp,ha.eval hx,ha.eval hy,Sem.run_bind,Zmb,Result.andThen_ok,h1,Zw9]
 rfl
theorem Z5v {t el t':TypeId} {z:Value} {b:Nat} {a1 a2 a3 b1 b2 b3:Int} [UL P t (.array 3 el)] [UL P el (.int .i64)] [TI P el z 1 b] [NG P t] (hx:ev e x=some (.agg #[.int .i64 a1,.int .i64 a2,.int .i64 a3])) (hy:ev e y=some (.agg #[.int .i64 b1,.int .i64 b2,.int .i64 b3])) :
  ExF P N w0 (.binOp .eql t x y t') ty e As (.bool (decide ((⟨a1,a2,a3⟩:V3)=⟨b1,b2,b3⟩))):=Zui ⟨a1,a2,a3⟩ ⟨b1,b2,b3⟩ hx hy
theorem Z5q {t el t':TypeId} {z:Value} {b:Nat} {a1 a2 a3 b1 b2 b3:Int} [UL P t (.array 3 el)] [UL P el (.int .i64)] [TI P el z 1 b] [NG P t] (hx:ev e x=some (.agg #[.int .i64 a1,.int .i64 a2,.int .i64 a3])) (hy:ev e y=some (.agg #[.int .i64 b1,.int .i64 b2,.int .i64 b3])) :
  ExF P N w0 (.binOp .neq t x y t') ty e As (.bool !(decide ((⟨a1,a2,a3⟩:V3)=⟨b1,b2,b3⟩))):=Zud ⟨a1,a2,a3⟩ ⟨b1,b2,b3⟩ hx hy
end
end Go.Sx
namespace Go.Sx
open Go
abbrev Edg:=Int × Int
def cE (u:Edg):Value:=.agg #[.int .i64 u.1,.int .i64 u.2]
def cNv (n:Nat):Value:=.int .i64 (n:Int)
instance {a b:Int}:EncV cE (.agg #[.int .i64 a,.int .i64 b]) (a,b):=⟨rfl⟩
instance {n:Nat}:EncV cNv (.int .i64 (n:Int)) n:=⟨rfl⟩
instance:EncV cNv (.int .i64 0) 0:=⟨rfl⟩
section
variable {P:Program} {w:World}
theorem Z6i {t el:TypeId} {z:Value} {b:Nat} [UL P t (.array 2 el)] [UL P el (.int .i64)] [TI P el z 1 b] (d:Nat) (p q:Edg):(Op.equalIn (d+1+1) t (cE p) (cE q)).run P w=.ok (decide (p=q)) w:=by
 have hp:∀ (r:Edg) (i:Nat) (v:Value),(#[Value.int .i64 r.1,.int .i64 r.2]:Array Value)[i]?=some v→(part el #[Value.int .i64 r.1,.int .i64 r.2] i).run P w=.ok v w:=fun r i v h=>Zi2 _ _ h
 have p0:=fun r=>hp r 0 _ rfl
 have p1:=fun r=>hp r 1 _ rfl
 obtain ⟨pa,pb⟩:=p
 obtain ⟨qa,qb⟩:=q
 unfold Op.equalIn
 simp only [cE,Sem.run_bind,Zar,Result.andThen_ok]
 simp only [Za9,Result.andThen_ok]
 have p0p:=p0 (pa,pb)
 have p0q:=p0 (qa,qb)
 have p1p:=p1 (pa,pb)
 have p1q:=p1 (qa,qb)
 simp only at p0p p0q p1p p1q
 simp [Std.Legacy.Range.forIn_eq_forIn_range',List.range'_succ,p0p,p0q,Zp3]
 by_cases h0:pa=qa<;>by_cases h1:pb=qb
 ·subst h0 h1;simp [p1p,Zp3]
 ·subst h0;simp [h1,p1p,p1q,Zp3]
 ·simp [h0]
 ·simp [h0]
instance {t el:TypeId} {z:Value} {b:Nat} [UL P t (.array 2 el)] [UL P el (.int .i64)] [TI P el z 1 b]:KeyT P t Edg cE where
 check em k w:=by
  have hp:∀ (i:Nat) (v:Value),(#[Value.int .i64 k.1,.int .i64 k.2]:Array Value)[i]?=some v→(part el #[Value.int .i64 k.1,.int .i64 k.2] i).run P w=.ok v w:=fun i v h=>Zi2 _ _ h
  have p0:=hp 0 _ rfl
  have p1:=hp 1 _ rfl
  have hc:∀ (n:Nat) (a:Int),(Instr.checkKey em (n+1) el (.int .i64 a)).run P w=.ok () w:=fun n a=>by simp [Instr.checkKey,Zar]
  have h2:(sizeOf el).run P w=.ok 1 w:=Za9
  show (Instr.checkKey em (9998+1+1) t (cE k)).run P w=.ok () w
  unfold Instr.checkKey
  simp only [cE,Sem.run_bind,Zar,Result.andThen_ok]
  simp [Std.Legacy.Range.forIn_eq_forIn_range',List.range'_succ,p0,p1,hc,h2]
 same k:=by
  have h1:Instr.sameBits 10000 (cE k) (cE k)=((IntKind.i64 == IntKind.i64&&k.1 == k.1)&&((IntKind.i64 == IntKind.i64&&k.2 == k.2)&&true)):=by rfl
  rw [h1]
  simp
 find:=⟨_,UL.h (P:=P) (t:=t),.inr ⟨fun a b=>rfl,fun a b w=>Z6i 9998 a b⟩⟩
end

theorem Zhr {n p:Nat} {q:Nat→Bool} (hp:p < n) (hq:q p=true) (h:∀ j,j < p→q j=false):(List.range n).find? q=some p:=by
 rw [List.find?_eq_some_iff_getElem]
 refine ⟨hq,p,by simpa using hp,by simp,fun j hj=>by simp [h j hj]⟩
theorem Zem {n:Nat} {q:Nat→Bool} (h:∀ j,j < n→q j=false):(List.range n).find? q=none:=by
 rw [List.find?_eq_none]
 intro x hx
 simp [h x (by simpa using hx)]

def V3.edge (f:V3) (k:Nat):Edg:=if k=0 then (f.x,f.y) else if k=1 then (f.y,f.z) else (f.z,f.x)
def edgeAt (fcs:List V3) (p:Nat):Edg:=match fcs[p / 3]? with
 | some f=>f.edge (p % 3)
 | none=>(0,0)
theorem Zm2 {fcs:List V3} {i:Nat} {f:V3} (h:fcs[i]?=some f):edgeAt fcs (3 * i)=(f.x,f.y):=by
 simp [edgeAt,V3.edge,h]
theorem Zm1 {fcs:List V3} {i:Nat} {f:V3} (h:fcs[i]?=some f):edgeAt fcs (3 * i+1)=(f.y,f.z):=by
 have h1:(3 * i+1) / 3=i:=by omega
 have h2:(3 * i+1) % 3=1:=by omega
 simp [edgeAt,V3.edge,h,h1,h2]
theorem Zm0 {fcs:List V3} {i:Nat} {f:V3} (h:fcs[i]?=some f):edgeAt fcs (3 * i+2)=(f.z,f.x):=by
 have h1:(3 * i+2) / 3=i:=by omega
 have h2:(3 * i+2) % 3=2:=by omega
 simp [edgeAt,V3.edge,h,h1,h2]
def own (fcs:List V3):Nat→List (Edg × Nat)
 | 0=>[]
 | p+1=>mSet (own fcs p) (edgeAt fcs p) (p / 3)
def dup (fcs:List V3) (p:Nat):Bool:=(mGet (own fcs p) (edgeAt fcs p)).isSome
def twiceP (fcs:List V3):Option Nat:=(List.range (3 * fcs.length)).find? (dup fcs)
def twiceF (fcs:List V3):Option Nat:=(twiceP fcs).map (· / 3)
def ownF (fcs:List V3):List (Edg × Nat):=own fcs ((twiceP fcs).getD (3 * fcs.length))
def sole (fcs:List V3) (l:List (Edg × Nat)) (p:Nat):Bool:=!(mGet l (edgeAt fcs p).swap).isSome
def openP (fcs:List V3) (l:List (Edg × Nat)):Option Nat:=(List.range (3 * fcs.length)).find? (sole fcs l)
def openF (fcs:List V3) (l:List (Edg × Nat)):Option Nat:=(openP fcs l).map (· / 3)
end Go.Sx
namespace Go.Sx
open Go
def idxOf (xs:List Bool) (b:Bool):Int:=match xs.findIdx? (· == b) with
 | some k=>(k:Int)
 | none=>-1
def mark1 (u:List Bool) (f:V3):List Bool:=((u.set f.x.toNat true).set f.y.toNat true).set f.z.toNat true
def usedF (n:Nat) (fcs:List V3):List Bool:=fcs.foldl mark1 (List.replicate n false)
theorem Zfa {u:List Bool} {f:V3}:(mark1 u f).length=u.length:=by simp [mark1]
theorem Zfr {l:List V3}:∀ {u:List Bool},(l.foldl mark1 u).length=u.length:=by
 induction l with
 | nil=>intro u;rfl
 | cons f l ih=>intro u;simp [ih,Zfa]
theorem Za1 {α β:Type} {g:β→α→β} {l:List α} {k:Nat} {x:α} {b:β} (h:l[k]?=some x):(l.take (k+1)).foldl g b=g ((l.take k).foldl g b) x:=by
 rw [List.take_add_one,h,List.foldl_append];rfl
def spareF (n:Nat) (fcs:List V3):Option Nat:=(usedF n fcs).findIdx? (· == false)
theorem Ztk {xs:List Bool}:found (xs.findIdx? (· == false))=.tuple #[.int .i64 (if idxOf xs false < 0 then 0 else idxOf xs false),.bool (decide (0≤idxOf xs false))]:=by
 unfold found idxOf
 cases xs.findIdx? (· == false) with
 | none=>rfl
 | some k=>simp [show ¬ ((k:Int) < 0) from by omega]
def visit1 (ow:Edg→Nat) (s:List Bool × List Nat) (u:Edg):List Bool × List Nat :=
 if s.1[ow u]?=some true then s else (s.1.set (ow u) true,s.2++[ow u])
def visitN (ow:Edg→Nat) (s:List Bool × List Nat) (f:V3):Nat→List Bool × List Nat
 | 0=>s
 | k+1=>visit1 ow (visitN ow s f k) (f.edge k).swap
def visit (ow:Edg→Nat) (s:List Bool × List Nat) (f:V3):List Bool × List Nat:=visitN ow s f 3
def left (s:List Bool × List Nat):Nat:=s.1.count false+s.2.length
def reach (ow:Edg→Nat) (fcs:List V3):Nat→List Bool × List Nat→List Bool
 | 0,s=>s.1
 | n + 1,s=>match s.2 with
  | []=>s.1
  | x::r=>match fcs[x]? with
   | none=>s.1
   | some f=>reach ow fcs n (visit ow (s.1,r) f)
def reach0 (ow:Edg→Nat) (fcs:List V3):List Bool:=reach ow fcs fcs.length ((List.replicate fcs.length false).set 0 true,[0])
def apartF (ow:Edg→Nat) (fcs:List V3):Option Nat:=(reach0 ow fcs).findIdx? (· == false)
theorem Zm7 {l:List Bool} {i:Nat} (h:l[i]?=some false):(l.set i true).count false+1=l.count false:=by
 induction l generalizing i with
 | nil=>cases h
 | cons x l ih =>
  cases i with
  | zero=>simp at h;subst h;simp
  | succ i =>
   have:=ih (i:=i) (by simpa using h)
   cases x<;>simp<;>omega
theorem Zuo {ow:Edg→Nat} {s:List Bool × List Nat} {u:Edg} (h:ow u < s.1.length):left (visit1 ow s u)=left s:=by
 unfold visit1
 split
 ·rfl
 ·rename_i hn
  have:s.1[ow u]?=some false:=by
   rw [List.getElem?_eq_getElem h] at hn ⊢
   cases hb:s.1[ow u]<;>simp_all
  have:=Zm7 this
  simp only [left,List.length_append,List.length_cons,List.length_nil]
  omega
theorem Zpw {ow:Edg→Nat} {s:List Bool × List Nat} {u:Edg}:(visit1 ow s u).1.length=s.1.length:=by
 unfold visit1;split<;>simp
theorem Zc9 {ow:Edg→Nat} {s:List Bool × List Nat} {f:V3} {k:Nat}:(visitN ow s f k).1.length=s.1.length:=by
 induction k with
 | zero=>rfl
 | succ k ih=>rw [visitN,Zpw,ih]
theorem Zlv {ow:Edg→Nat} {s:List Bool × List Nat} {f:V3} {k:Nat} (h:∀ j,j < k→ow (f.edge j).swap < s.1.length):left (visitN ow s f k)=left s:=by
 induction k with
 | zero=>rfl
 | succ k ih=>rw [visitN,Zuo (by rw [Zc9];exact h k (by omega)),ih fun j hj=>h j (by omega)]
theorem Zza {ow:Edg→Nat} {s:List Bool × List Nat} {u:Edg} {n:Nat} (h:ow u < n) (hs:∀ x∈s.2,x < n):∀ x∈(visit1 ow s u).2,x < n:=by
 unfold visit1
 split
 ·exact hs
 ·intro x hx
  rcases List.mem_append.1 hx with hx|hx
  ·exact hs x hx
  ·rw [List.mem_singleton.1 hx];exact h
theorem Zoe {ow:Edg→Nat} {s:List Bool × List Nat} {f:V3} {n k:Nat} (h:∀ j,j < k→ow (f.edge j).swap < n) (hs:∀ x∈s.2,x < n):∀ x∈(visitN ow s f k).2,x < n:=by
 induction k with
 | zero=>exact hs
 | succ k ih=>exact Zza (h k (by omega)) (ih fun j hj=>h j (by omega))
theorem Z18 {ow:Edg→Nat} {fcs:List V3} {k:Nat} {r:List Bool}:reach ow fcs k (r,[])=r:=by
 cases k<;>rfl
end Go.Sx
namespace Go.Sx
open Go
def firstOf:List (Option Nat)→Nat→Nat × Nat
 | [],_=>(0,0)
 | o::r,k=>match o with
  | some i=>(k,i)
  | none=>firstOf r (k+1)
def flawM (pts fcs:List V3):Nat × Nat :=
 if pts.length < 4∨300 < pts.length then (1,0)
 else if fcs.length < 4∨600 < fcs.length then (1,1)
 else firstOf [farF pts,wrongF pts.length fcs,flatF pts fcs,twiceF fcs,openF fcs (ownF fcs),spareF pts.length fcs,apartF (fun u=>(mGet (ownF fcs) u).getD 0) fcs] 2
def flawV (r:Nat × Nat):Value:=.tuple #[.int .i64 (r.1:Int),.int .i64 (r.2:Int)]
theorem Zx8 {pts:List V3} (h:farF pts=none):∀ p∈pts,p.in 200000:=by
 intro p hp
 have:=List.findIdx?_eq_none_iff.1 h p hp
 simp only [isFar,Bool.or_eq_false_iff,decide_eq_false_iff_not] at this
 exact ⟨by omega,by omega,by omega,by omega,by omega,by omega⟩
theorem Zed {n:Nat} {fcs:List V3} (h:wrongF n fcs=none):∀ f∈fcs,isWrong n f=false:=List.findIdx?_eq_none_iff.1 h
theorem Z86 {fcs:List V3}:∀ {p:Nat} {u:Edg} {g:Nat},p≤3 * fcs.length→mGet (own fcs p) u=some g→g < fcs.length
 | 0,u,g,_,h=>by cases h
 | p+1,u,g,hp,h=>by
  rw [own,Zhk] at h
  split at h
  ·cases h;omega
  ·exact Z86 (by omega) h
theorem Zb2 {fcs:List V3} {i k:Nat} {f:V3} (h:fcs[i]?=some f) (hk:k < 3):edgeAt fcs (3 * i+k)=f.edge k:=by
 have h1:(3 * i+k) / 3=i:=by omega
 have h2:(3 * i+k) % 3=k:=by omega
 simp [edgeAt,h,h1,h2]
theorem Z2v {fcs:List V3} (h:openF fcs (ownF fcs)=none):∀ f∈fcs,∀ k,k < 3→∃ g,g < fcs.length∧mGet (ownF fcs) (f.edge k).swap=some g:=by
 intro f hf k hk
 obtain ⟨i,hi⟩:=List.mem_iff_getElem?.1 hf
 have hlt:i < fcs.length:=(List.getElem?_eq_some_iff.1 hi).1
 simp only [openF,Option.map_eq_none_iff,openP] at h
 have h1:=List.find?_eq_none.1 h (3 * i+k) (by simp;omega)
 rw [sole,Zb2 hi hk] at h1
 obtain ⟨g,hg⟩:=Option.ne_none_iff_exists'.1 (show mGet (ownF fcs) (f.edge k).swap≠none by simpa using h1)
 refine ⟨g,Z86 (p:=(twiceP fcs).getD (3 * fcs.length)) ?_ hg,hg⟩
 cases ht:twiceP fcs with
 | none=>simp
 | some p =>
  have:=List.mem_of_find?_eq_some ht
  simp at this
  simp;omega
def chkM (pts fcs:List V3):Int:=if (flawM pts fcs).1=0 then 0 else 350
section
variable {P:Program} {N:Ctx} {w0:World} {e:Env} {As:List Ent} {ty:TypeId} {x y:Operand} {v:Value} {α:Type} {c:Cod α} {xs:List α}
theorem Z5z {f:FuncId} {args:List Value} {K:Value→List Ent→Prop} (h:CallsS P w0 f args As K) (hK:∀ v Bs,K v Bs→RdIn Bs v α c xs):CallsS P w0 f args As (fun v Bs=>∃ p cap,v=.slice p xs.length cap∧K v Bs):=CallsS.mk fun w hs =>
 (h.out w hs).mono fun en w' ⟨v,Bs,h1,h2,h3⟩=>by
  obtain ⟨p,cap,hv,_⟩:=((hK v Bs h2).get w0 w' h3).len
  exact ⟨v,Bs,h1,⟨p,cap,hv,h2⟩,h3⟩
theorem Z0o {t el t':TypeId} [UL P t (.slice el)] [hr:RdIn As v α c xs] (hx:ev e x=some v) (hy:ev e y=some (.slice none 0 0)):ExR P N w0 (.binOp .eql t x y t') ty e As (fun u As'=>∃ b:Bool,u=.bool b∧(b=true→xs=[])∧As'=As):=by
 unfold ExR
 intro a w ha hs d pos af g
 rcases hr.get w0 w hs with ⟨⟨p,rfl⟩,rfl⟩|⟨b,off,cap,front,rest,T,fr,rfl,h2,h3,h4⟩
 ·exact ⟨.bool p.isNone,w,As,by simp [execOp,ha.eval hx,ha.eval hy,eqGuard,Lib.run_eql_slice_nil w t el p 0 0 0 0 UL.h],⟨_,rfl,fun _=>rfl,rfl⟩,hs⟩
 ·exact ⟨.bool false,w,As,by simp [execOp,ha.eval hx,ha.eval hy,eqGuard,Lib.run_eql_slice_nil w t el (some ⟨b,off,none⟩) xs.length cap 0 0 UL.h],⟨_,rfl,(fun h=>by cases h),rfl⟩,hs⟩
end
end Go.Sx
namespace Go.Sx
open Go
def V3.add (a b:V3):V3:=⟨a.x+b.x,a.y+b.y,a.z+b.z⟩
theorem Zms {p:V3}:isFar p=true↔p.x < -200000∨200000 < p.x∨p.y < -200000∨200000 < p.y∨p.z < -200000∨200000 < p.z:=by
 simp [isFar,or_assoc]
theorem Zxs {p:V3}:isFar p=false↔¬ (p.x < -200000∨200000 < p.x∨p.y < -200000∨200000 < p.y∨p.z < -200000∨200000 < p.z):=by
 rw [← Zms];simp
def V3.mx (a b:V3):V3:=⟨if a.x < b.x then b.x else a.x,if a.y < b.y then b.y else a.y,if a.z < b.z then b.z else a.z⟩
def swapF (f:V3):V3:=⟨f.x,f.z,f.y⟩
def okM (pts fcs:List V3):Prop:=(flawM pts fcs).1=0
instance {pts fcs:List V3}:Decidable (okM pts fcs):=inferInstanceAs (Decidable (_=_))
theorem Z4j {pts fcs:List V3} (h:chkM pts fcs=0):okM pts fcs:=by
 unfold chkM at h;unfold okM
 split at h
 ·assumption
 ·cases h
theorem Z4k {pts fcs:List V3} (h:¬ chkM pts fcs=0):¬ okM pts fcs∧chkM pts fcs=350:=by
 unfold chkM at h ⊢;unfold okM
 split at h
 ·exact absurd rfl h
 ·rename_i h1;exact ⟨h1,by rw [if_neg h1]⟩
theorem Zpa:∀ (l:List (Option Nat)) (k:Nat),0 < k→(firstOf l k).1=0→∀ o∈l,o=none
 | [],_,_,_,o,ho=>by cases ho
 | some i::r,k,hk,h,o,ho=>by simp only [firstOf] at h;omega
 | none::r,k,hk,h,o,ho=>by
  rcases List.mem_cons.1 ho with rfl|ho
  ·rfl
  ·exact Zpa r (k+1) (by omega) h o ho
structure Good (pts fcs:List V3):Prop where
 p4:4≤pts.length
 p300:pts.length≤300
 f4:4≤fcs.length
 f600:fcs.length≤600
 far:farF pts=none
 wrong:wrongF pts.length fcs=none
 flat:flatF pts fcs=none
 twice:twiceF fcs=none
 opn:openF fcs (ownF fcs)=none
 spare:spareF pts.length fcs=none
 apart:apartF (fun u=>(mGet (ownF fcs) u).getD 0) fcs=none
theorem Yft {pts fcs:List V3}:okM pts fcs↔Good pts fcs:=by
 constructor
 ·intro h
  unfold okM flawM at h
  split at h
  ·cases h
  split at h
  ·cases h
  have:=Zpa _ _ (by decide) h
  exact ⟨by omega,by omega,by omega,by omega,this _ (by simp),this _ (by simp),this _ (by simp),this _ (by simp),this _ (by simp),this _ (by simp),this _ (by simp)⟩
 ·rintro ⟨a1,a2,a3,a4,h1,h2,h3,h4,h5,h6,h7⟩
  unfold okM flawM
  rw [if_neg (by omega),if_neg (by omega),h1,h2,h3,h4,h5,h6,h7]
  rfl
def turnedM (pts fcs:List V3):Int × List V3 × List V3:=if okM pts fcs then (0,pts,fcs.map swapF) else (350,[],[])
theorem Zvm {α:Type} {f:α→α} {l:List α} {k:Nat} {x:α} (h:l[k]?=some x):((l.take k).map f++l.drop k)[k]?=some x:=by
 have hk:=(List.getElem?_eq_some_iff.1 h).1
 have e:((l.take k).map f).length=k:=by simp;omega
 rw [List.getElem?_append_right (by omega),e,Nat.sub_self,List.getElem?_drop,Nat.add_zero,h]
theorem Zvl {α:Type} {f:α→α} {l:List α} {k:Nat} {x y:α} (h:l[k]?=some x) (hy:y=f x):((l.take k).map f++l.drop k).set k y=(l.take (k+1)).map f++l.drop (k+1):=by
 subst hy
 have hk:=(List.getElem?_eq_some_iff.1 h).1
 have hx:=(List.getElem?_eq_some_iff.1 h).2
 have e:((l.take k).map f).length=k:=by simp;omega
 rw [List.set_append_right k (f x) (by omega),e,Nat.sub_self,List.drop_eq_getElem_cons hk,hx,List.set_cons_zero,List.take_succ_eq_append_getElem hk,hx]
 simp
theorem Zn2 {α:Type} {f:α→α} {l:List α} {k:Nat}:((l.take k).map f++l.drop k).length=l.length:=by simp;omega
end Go.Sx
namespace Go.Sx
open Go
def faceV (pts:List V3) (f:V3):Int:=(ptAt pts f.x).dot ((ptAt pts f.y).cross (ptAt pts f.z))
def volM (pts fcs:List V3):Int:=fcs.foldl (fun s f=>s+faceV pts f) 0
theorem Zii {n:Int} (hn:0≤n) {pts:List V3} (h:∀ p∈pts,p.in n) (i:Int):(ptAt pts i).in n:=by
 unfold ptAt
 cases hp:pts[i.toNat]? with
 | none =>
  refine ⟨?_,?_,?_,?_,?_,?_⟩<;>simp [V3.zero]<;>omega
 | some p=>exact h p (List.mem_of_getElem? hp)
theorem Yeo {m n:Int} (hm:0≤m) (hn:0≤n) {a b:V3} (h:a.in m) (k:b.in n):-(3 * (m * n))≤a.dot b∧a.dot b≤3 * (m * n):=by
 obtain ⟨h1,h2,h3,h4,h5,h6⟩:=h
 obtain ⟨k1,k2,k3,k4,k5,k6⟩:=k
 have a1:=Za5 hm hn h1 h2 k1 k2
 have a2:=Za5 hm hn h3 h4 k3 k4
 have a3:=Za5 hm hn h5 h6 k5 k6
 simp only [V3.dot]
 omega
theorem Zx9 {pts:List V3} (h:∀ p∈pts,p.in 200000) (f:V3):-48000000000000000≤faceV pts f∧faceV pts f≤48000000000000000:=by
 have:=Yeo (by decide) (by decide) (Zii (by decide) h f.x) (Zd8 (by decide) (by decide) (Zii (by decide) h f.y) (Zii (by decide) h f.z))
 unfold faceV
 omega
theorem Zoc {pts:List V3} (h:∀ p∈pts,p.in 200000) (fcs:List V3):∀ k:Nat,-(48000000000000000 * (k:Int))≤volM pts (fcs.take k)∧volM pts (fcs.take k)≤48000000000000000 * (k:Int)
 | 0=>by simp [volM]
 | k + 1=>by
  have ih:=Zoc h fcs k
  cases hf:fcs[k]? with
  | none =>
   have h1:fcs.take (k+1)=fcs.take k:=by
    have:=List.getElem?_eq_none_iff.1 hf
    rw [List.take_of_length_le (by omega),List.take_of_length_le (by omega)]
   rw [h1];omega
  | some f =>
   have h1:volM pts (fcs.take (k+1))=volM pts (fcs.take k)+faceV pts f:=by
    unfold volM;rw [Za1 hf]
   have h2:=Zx9 h f
   rw [h1];omega
end Go.Sx
namespace Go.Sx
open Go
end Go.Sx
namespace Go.Sx
open Go
end Go.Sx
namespace Go.Sx
open Go
def V3.lay (s:Int) (at_ p:V3):V3:=⟨p.x * s+at_.x,p.y * s+at_.y,p.z * s+at_.z⟩
instance {n:Int} {p:V3}:Decidable (p.in n):=inferInstanceAs (Decidable (_∧_))
theorem Zqm {α β:Type} {f:α→β} {l:List α} {k:Nat} {x:α} (h:l[k]?=some x):(l.take (k+1)).map f=(l.take k).map f++[f x]:=by
 rw [List.take_add_one,h];simp
def besideF (n:Int) (f:V3):V3:=⟨IntKind.i64.wrap (f.x+n),IntKind.i64.wrap (f.y+n),IntKind.i64.wrap (f.z+n)⟩
def besideP (p:V3):V3:=⟨IntKind.i64.wrap (p.x+5000),p.y,p.z⟩
def shareI (n i:Int):Int:=if 0 < i then IntKind.i64.wrap (i+(n - 1)) else i
def shareF (n:Int) (f:V3):V3:=⟨shareI n f.x,shareI n f.y,shareI n f.z⟩
def shareC (a b:Int):Int:=IntKind.i64.wrap (IntKind.i64.wrap (2 * a) - b)
def shareP (o p:V3):V3:=⟨shareC o.x p.x,shareC o.y p.y,shareC o.z p.z⟩
def BendOk (what:Nat) (pts fcs pts' fcs':List V3):Prop:=pts'.length≤80∧fcs'.length≤80 ∧
 (what % 12=8→pts≠[]→fcs≠[]→pts.length≤40→fcs.length≤40→pts'=pts++pts.map besideP∧fcs'=fcs++fcs.map (besideF pts.length)) ∧
 (what % 12=10→pts≠[]→fcs≠[]→pts.length≤40→fcs.length≤40→pts'=pts++(pts.drop 1).map (shareP (ptAt pts 0))∧fcs'=fcs++fcs.map (shareF pts.length))
theorem BendOk.small {what:Nat} {pts fcs pts' fcs':List V3} (h1:pts'.length≤80) (h2:fcs'.length≤80) (h3:what % 12≠8) (h4:what % 12≠10):BendOk what pts fcs pts' fcs':=⟨h1,h2,fun h=>absurd h h3,fun h=>absurd h h4⟩
end Go.Sx
