/- Whole numbers, plain: groups of nine digits, decimal digits, texts. -/
import Derived.Test.YtlgdjjkiofcdmaaDoorSxA
import Derived.Test.YtlgdjjkiofcdmaaDoorSx9
import Derived.Test.YtlgdjjkiofcdmaaDoorSx8
import Derived.WalkSpells
namespace Go.Sx
open Go
def valB:List Nat→Nat
 | []=>0
 | d::r=>d+1000000000 * valB r
def mag (n:Nat):List Nat:=if h:n=0 then [] else n % 1000000000::mag (n / 1000000000)
termination_by n
decreasing_by omega
theorem Zau:mag 0=[]:=by rw [mag,dif_pos rfl]
theorem Zd3 {n:Nat} (h:n≠0):mag n=n % 1000000000::mag (n / 1000000000):=by rw [mag,dif_neg h]
theorem Zjz {p:Nat→Prop} (h0:p 0) (h1:∀ n,n≠0→p (n / 1000000000)→p n) (n:Nat):p n:=by
 induction n using Nat.strongRecOn with
 | _ n ih =>
  by_cases h:n=0
  ·subst h;exact h0
  ·exact h1 n h (ih _ (by omega))
theorem Zdf (n:Nat):valB (mag n)=n:=by
 induction n using Zjz with
 | h0=>rw [Zau];rfl
 | h1 n h ih=>rw [Zd3 h,valB,ih];omega
theorem Zc2 (n:Nat):∀ d∈mag n,d < 1000000000:=by
 induction n using Zjz with
 | h0=>rw [Zau];intro d hd;cases hd
 | h1 n h ih =>
  rw [Zd3 h]
  intro d hd
  rcases List.mem_cons.1 hd with rfl|hd
  ·omega
  ·exact ih d hd
theorem Zr4 {n:Nat}:mag n=[]↔n=0:=by
 constructor
 ·intro h
  have:=Zdf n
  rw [h] at this
  exact this.symm
 ·rintro rfl;exact Zau
theorem Zqd {n:Nat}:(mag n).length=0↔n=0:=by rw [List.length_eq_zero_iff,Zr4]
def trimL:List Nat→List Nat
 | []=>[]
 | d::r=>match trimL r with
    | []=>if d=0 then [] else [d]
    | x::s=>d::x::s
theorem Zfj:∀ {xs:List Nat},(∀ d∈xs,d < 1000000000)→trimL xs=mag (valB xs)
 | [],_=>by rw [valB,Zau];rfl
 | d :: r,h=>by
  have ih:=Zfj (xs:=r) fun x hx=>h x (List.mem_cons_of_mem _ hx)
  have hd:=h d (List.mem_cons_self ..)
  rw [trimL,ih,valB]
  by_cases hv:valB r=0
  ·rw [hv,Zau]
   by_cases h0:d=0
   ·subst h0;rw [Zau];rfl
   ·simp only [if_neg h0,Nat.mul_zero,Nat.add_zero]
    rw [Zd3 h0,Nat.mod_eq_of_lt hd,Nat.div_eq_of_lt hd,Zau]
  ·have h1:mag (d+1000000000 * valB r)=d::mag (valB r):=by
        rw [Zd3 (by omega)]
        rw [show (d+1000000000 * valB r) % 1000000000=d by omega,show (d+1000000000 * valB r) / 1000000000=valB r by omega]
   rw [h1]
   cases hm:mag (valB r) with
   | nil=>exact absurd (Zr4.1 hm) hv
   | cons x s=>rfl
theorem Zgx:∀ {xs:List Nat},trimL (xs++[0])=trimL xs
 | []=>rfl
 | d::r=>by rw [List.cons_append,trimL,Zgx (xs:=r),trimL]
theorem Zem {y:Nat} (hy:y≠0):∀ {xs:List Nat},trimL (xs++[y])=xs++[y]
 | []=>by simp [trimL,hy]
 | d::r=>by
  rw [List.cons_append,trimL,Zem hy (xs:=r)]
  cases r<;>rfl
theorem Zcf:∀ {xs ys:List Nat},valB (xs++ys)=valB xs+1000000000 ^ xs.length * valB ys
 | [],ys=>by simp [valB]
 | d::r,ys=>by
  rw [List.cons_append,valB,Zcf (xs:=r),valB,List.length_cons,Nat.pow_succ,Nat.mul_add,Nat.mul_comm (1000000000 ^ r.length) 1000000000,Nat.mul_assoc]
  omega
theorem Zhk:∀ {xs:List Nat},(∀ d∈xs,d < 1000000000)→valB xs < 1000000000 ^ xs.length
 | [],_=>by simp [valB]
 | d::r,h=>by
  have ih:=Zhk (xs:=r) fun x hx=>h x (List.mem_cons_of_mem _ hx)
  have hd:=h d (List.mem_cons_self ..)
  rw [valB,List.length_cons,Nat.pow_succ]
  omega
theorem Zcw {xs:List Nat} {i d:Nat} (h:xs[i]?=some d):valB (xs.take (i+1))=valB (xs.take i)+1000000000 ^ i * d:=by
 have hi:=(List.getElem?_eq_some_iff.1 h).1
 rw [List.take_succ_eq_append_getElem hi,Zcf,(List.getElem?_eq_some_iff.1 h).2]
 simp only [List.length_take,Nat.min_eq_left (Nat.le_of_lt hi),valB,Nat.mul_zero,Nat.add_zero]
theorem Zk7 (n:Nat):∀ i,(mag n).drop i=mag (n / 1000000000 ^ i)
 | 0=>by simp
 | i+1=>by
  have ih:=Zk7 n i
  rw [← List.drop_drop,ih,Nat.pow_succ,← Nat.div_div_eq_div_mul]
  by_cases h:n / 1000000000 ^ i=0
  ·rw [h,Zau];simp
  ·rw [Zd3 h];rfl
theorem Zd4 {n i d:Nat} (h:(mag n)[i]?=some d):n / 1000000000 ^ i=d+1000000000 * (n / 1000000000 ^ (i+1))∧n / 1000000000 ^ i≠0∧d < 1000000000:=by
 have h1:(mag (n / 1000000000 ^ i))[0]?=some d:=by rw [← Zk7,List.getElem?_drop,Nat.add_zero,h]
 have h0:n / 1000000000 ^ i≠0:=fun h0=>by rw [h0,Zau] at h1;cases h1
 rw [Zd3 h0] at h1
 simp only [List.getElem?_cons_zero,Option.some.injEq] at h1
 have h2:n / 1000000000 ^ (i+1)=n / 1000000000 ^ i / 1000000000:=by rw [Nat.pow_succ,Nat.div_div_eq_div_mul]
 refine ⟨?_,h0,by omega⟩
 rw [h2];omega
theorem Zbw (n:Nat):n < 1000000000 ^ (mag n).length:=by
 have:=Zhk (Zc2 n)
 rwa [Zdf] at this
theorem Zdi {n:Nat} (h:n≠0):1000000000 ^ ((mag n).length - 1)≤n:=by
 induction n using Zjz with
 | h0=>exact absurd rfl h
 | h1 n h ih =>
  rw [Zd3 h,List.length_cons,Nat.add_sub_cancel]
  by_cases h1:n / 1000000000=0
  ·rw [h1,Zau];simp;omega
  ·have h2:=ih h1
   have h3:(mag (n / 1000000000)).length≠0:=fun h=>h1 (Zqd.1 h)
   have e:(mag (n / 1000000000)).length=(mag (n / 1000000000)).length - 1+1:=by omega
   rw [e,Nat.pow_succ]
   omega
theorem Zg4 {a b:Nat} (h:a≤b):(mag a).length≤(mag b).length:=by
 by_cases ha:a=0
 ·subst ha;rw [Zau];exact Nat.zero_le _
 ·have h1:=Zdi ha
  have h2:=Zbw b
  rcases Nat.lt_or_ge (mag b).length (mag a).length with h3|h3
  ·have h4:=Nat.pow_le_pow_right (n:=1000000000) (by omega) (show (mag b).length≤(mag a).length - 1 by omega)
   omega
  ·exact h3
theorem Zrd {l:List Nat} (h:∀ d∈l,d < 1000000000) (hp:l=[]∨1000000000 ^ (l.length - 1)≤valB l):l=mag (valB l):=by
 rw [← Zfj h]
 rcases hp with rfl|hp
 ·rfl
 rcases List.eq_nil_or_concat l with rfl|⟨xs,y,rfl⟩
 ·rfl
 ·by_cases hy:y=0
  ·subst hy
   rw [List.concat_eq_append] at hp h
   have h1:=Zhk (xs:=xs) fun d hd=>h d (List.mem_append_left _ hd)
   rw [Zcf] at hp
   simp only [valB,Nat.mul_zero,Nat.add_zero,List.length_append,List.length_cons,List.length_nil,Nat.add_sub_cancel] at hp
   omega
  ·rw [List.concat_eq_append,Zem hy]

/-! decimal digits -/
def dig (c:UInt8):Nat:=c.toNat - 48
def isDig (c:UInt8):Bool:=decide (48≤c.toNat)&&decide (c.toNat≤57)
theorem Zfv {c:UInt8}:isDig c=true↔48≤c.toNat∧c.toNat≤57:=by simp [isDig]
def numOf (l:List UInt8):Nat:=l.foldl (fun n c=>n * 10+dig c) 0
theorem Zg2 {l:List UInt8} {c:UInt8}:numOf (l++[c])=numOf l * 10+dig c:=by simp [numOf]
theorem Zfw:∀ (b:List UInt8) (n:Nat),b.foldl (fun n c=>n * 10+dig c) n=n * 10 ^ b.length+numOf b
 | [],n=>by simp [numOf]
 | c::b,n=>by
  have h1:=Zfw b (n * 10+dig c)
  have h2:=Zfw b (0 * 10+dig c)
  have h3:numOf (c::b)=b.foldl (fun n c=>n * 10+dig c) (0 * 10+dig c):=rfl
  rw [List.foldl_cons,h1,h3,h2,List.length_cons,Nat.pow_succ,Nat.add_mul,Nat.mul_assoc,Nat.mul_comm 10 (10 ^ b.length)]
  simp only [Nat.zero_mul,Nat.zero_add]
  omega
theorem Zc0 {a b:List UInt8}:numOf (a++b)=numOf a * 10 ^ b.length+numOf b:=by
 rw [numOf,List.foldl_append,Zfw];rfl
theorem Zta {c:UInt8} (h:isDig c=true):dig c < 10:=by
 rw [Zfv] at h;unfold dig;omega
theorem Ze8:∀ {l:List UInt8},(∀ c∈l,isDig c=true)→numOf l < 10 ^ l.length:=by
 intro l
 induction l with
 | nil=>intro _;simp [numOf]
 | cons c l ih =>
  intro h
  have h1:=ih fun x hx=>h x (List.mem_cons_of_mem _ hx)
  have h2:=Zta (h c (List.mem_cons_self ..))
  have h3:=Zc0 (a:=[c]) (b:=l)
  have h4:numOf [c]=dig c:=by simp [numOf]
  rw [List.singleton_append,h4] at h3
  rw [h3,List.length_cons,Nat.pow_succ]
  have h5:=Nat.mul_le_mul_right (10 ^ l.length) (show dig c≤9 by omega)
  omega
def grp (l:List UInt8):List Nat:=if h:l.length≤9 then [numOf l] else numOf (l.drop (l.length - 9))::grp (l.take (l.length - 9))
termination_by l.length
decreasing_by simp;omega
theorem Zn7 {l:List UInt8} (h:l.length≤9):grp l=[numOf l]:=by rw [grp,dif_pos h]
theorem Zre {l:List UInt8} (h:¬ l.length≤9):grp l=numOf (l.drop (l.length - 9))::grp (l.take (l.length - 9)):=by rw [grp,dif_neg h]
theorem Zqh (k:Nat):∀ {l:List UInt8},l.length≤k→(∀ c∈l,isDig c=true)→valB (grp l)=numOf l∧∀ d∈grp l,d < 1000000000:=by
 induction k with
 | zero =>
  intro l hl _
  have:l=[]:=List.length_eq_zero_iff.1 (by omega)
  subst this
  rw [Zn7 (by simp)]
  simp [valB,numOf]
 | succ k ih =>
  intro l hl hd
  by_cases h:l.length≤9
  ·rw [Zn7 h]
   have h1:=Ze8 hd
   have h2:=Nat.pow_le_pow_right (n:=10) (by omega) h
   refine ⟨by simp [valB],fun d hm=>?_⟩
   rw [List.mem_singleton.1 hm]
   omega
  ·rw [Zre h]
   obtain ⟨h1,h2⟩:=ih (l:=l.take (l.length - 9)) (by simp;omega) fun c hc=>hd c (List.mem_of_mem_take hc)
   have hld:(l.drop (l.length - 9)).length=9:=by simp;omega
   have h3:=Ze8 (l:=l.drop (l.length - 9)) fun c hc=>hd c (List.mem_of_mem_drop hc)
   rw [hld] at h3
   refine ⟨?_,fun d hm=>?_⟩
   ·have h4:=Zc0 (a:=l.take (l.length - 9)) (b:=l.drop (l.length - 9))
    rw [List.take_append_drop,hld] at h4
    rw [valB,h1,h4]
    omega
   ·rcases List.mem_cons.1 hm with rfl|hm
    ·omega
    ·exact h2 d hm
theorem Zi0 {k:Nat} (h:k < 10):dig (UInt8.ofNat (48+k))=k∧isDig (UInt8.ofNat (48+k))=true∧(UInt8.ofNat (48+k)).toNat=48+k:=by
 have:(UInt8.ofNat (48+k)).toNat=48+k:=by simp;omega
 refine ⟨by rw [dig,this];omega,by rw [Zfv,this];omega,this⟩
theorem Zcd {n:Nat} (h:n < 10):Lib.decDigits n=[UInt8.ofNat (48+n)]:=Lib.decDigits_one h
theorem Zf0 {n:Nat} (h:¬ n < 10):Lib.decDigits n=Lib.decDigits (n / 10)++[UInt8.ofNat (48+n % 10)]:=by rw [Lib.decDigits,dif_neg h]
theorem Zj6 {p:Nat→Prop} (h0:∀ n,n < 10→p n) (h1:∀ n,¬ n < 10→p (n / 10)→p n) (n:Nat):p n:=by
 induction n using Nat.strongRecOn with
 | _ n ih =>
  by_cases h:n < 10
  ·exact h0 n h
  ·exact h1 n h (ih _ (by omega))
theorem Zn3 (n:Nat):numOf (Lib.decDigits n)=n:=by
 induction n using Zj6 with
 | h0 n h=>rw [Zcd h];show 0 * 10+dig _=n;rw [(Zi0 h).1];omega
 | h1 n h ih=>rw [Zf0 h,Zg2,ih,(Zi0 (show n % 10 < 10 by omega)).1];omega
theorem Zr9 (n:Nat):∀ c∈Lib.decDigits n,isDig c=true:=by
 induction n using Zj6 with
 | h0 n h =>
  rw [Zcd h]
  intro c hc
  rw [List.mem_singleton.1 hc];exact (Zi0 h).2.1
 | h1 n h ih =>
  rw [Zf0 h]
  intro c hc
  rcases List.mem_append.1 hc with hc|hc
  ·exact ih c hc
  ·rw [List.mem_singleton.1 hc];exact (Zi0 (show n % 10 < 10 by omega)).2.1
theorem Zc6 (n:Nat):(Lib.decDigits n).length=Lib.nDigits n:=Lib.decDigits_length n
theorem Zd1 (n:Nat):0 < Lib.nDigits n:=by
 by_cases h:n < 10
 ·rw [Lib.nDigits_small h];decide
 ·rw [Lib.nDigits_big h];omega
theorem Zqj {n:Nat} (h0:n≠0):∃ c r,Lib.decDigits n=c::r∧c.toNat≠48:=by
 induction n using Zj6 with
 | h0 n h=>exact ⟨_,[],Zcd h,by rw [(Zi0 h).2.2];omega⟩
 | h1 n h ih =>
  obtain ⟨c,r,h1,h2⟩:=ih (by omega)
  exact ⟨c,r++[_],by rw [Zf0 h,h1];rfl,h2⟩
def pad:Nat→Nat→List UInt8
 | 0,_=>[]
 | k+1,r=>pad k (r / 10)++[UInt8.ofNat (48+r % 10)]
theorem Zk4:∀ k,pad k 0=List.replicate k 48
 | 0=>rfl
 | k+1=>by rw [pad,Zk4 k,List.replicate_succ'];rfl
theorem Zny:∀ {k r:Nat},Lib.nDigits r≤k→pad k r=List.replicate (k - Lib.nDigits r) 48++Lib.decDigits r
 | 0,r,h=>by have:=Zd1 r;omega
 | k + 1,r,h=>by
  rw [pad]
  by_cases h1:r < 10
  ·rw [Lib.nDigits_small h1,Zcd h1,show r / 10=0 by omega,Zk4,show r % 10=r by omega];rfl
  ·rw [Lib.nDigits_big h1] at h ⊢
   rw [Zny (by omega),Zf0 h1,List.append_assoc,show k+1 - (Lib.nDigits (r / 10)+1)=k - Lib.nDigits (r / 10) by omega]
theorem Zi1 {q:Nat} (hq:0 < q):∀ {k r:Nat},r < 10 ^ k→Lib.decDigits (q * 10 ^ k+r)=Lib.decDigits q++pad k r
 | 0,r,h=>by
  have:r=0:=by simpa using h
  subst this;simp [pad]
 | k + 1,r,h=>by
  have hp:0 < 10 ^ k:=Nat.pow_pos (by omega)
  have hqk:=Nat.mul_pos hq hp
  rw [Nat.pow_succ] at h
  have e1:q * 10 ^ (k+1)=q * 10 ^ k * 10:=by rw [Nat.pow_succ,Nat.mul_assoc]
  have e2:(q * 10 ^ (k+1)+r) / 10=q * 10 ^ k+r / 10:=by rw [e1];omega
  have e3:(q * 10 ^ (k+1)+r) % 10=r % 10:=by rw [e1];omega
  have h2:¬ q * 10 ^ (k+1)+r < 10:=by
     rw [e1]
     omega
  rw [Zf0 h2,e2,e3,Zi1 hq (by omega),pad,List.append_assoc]
theorem Zbv {k:Nat}:∀ {r:Nat},r < 10 ^ (k+1)→Lib.nDigits r≤k+1:=by
 induction k with
 | zero=>intro r h;rw [Lib.nDigits_small (by simpa using h)];exact Nat.le_refl _
 | succ k ih =>
  intro r h
  by_cases h1:r < 10
  ·rw [Lib.nDigits_small h1];omega
  ·rw [Lib.nDigits_big h1]
   rw [Nat.pow_succ] at h
   have:=ih (r:=r / 10) (by omega)
   omega
theorem Zi2 {q d:Nat} (hq:q≠0) (hd:d < 1000000000):Lib.decDigits (d+1000000000 * q)=Lib.decDigits q++(List.replicate (9 - Lib.nDigits d) 48++Lib.decDigits d):=by
 have h:=Zi1 (q:=q) (by omega) (k:=9) (r:=d) (by simpa using hd)
 rw [show q * 10 ^ 9+d=d+1000000000 * q by omega] at h
 rw [h,Zny (Zbv (k:=8) (by simpa using hd))]
theorem Zhs {q d:Nat} (hq:q≠0) (hd:d < 1000000000):Lib.nDigits (d+1000000000 * q)=Lib.nDigits q+9:=by
 have h:=congrArg List.length (Zi2 hq hd)
 have h1:=Zbv (k:=8) (r:=d) (by simpa using hd)
 simp only [List.length_append,List.length_replicate,Zc6] at h
 omega
theorem Zcg {n:Nat}:∀ i,n / 1000000000 ^ i≠0→Lib.nDigits n=9 * i+Lib.nDigits (n / 1000000000 ^ i)
 | 0,_=>by simp
 | i+1,h=>by
  have e:n / 1000000000 ^ (i+1)=n / 1000000000 ^ i / 1000000000:=by rw [Nat.pow_succ,Nat.div_div_eq_div_mul]
  rw [e] at h ⊢
  rw [Zcg i (by omega)]
  have:=Zhs (q:=n / 1000000000 ^ i / 1000000000) (d:=n / 1000000000 ^ i % 1000000000) h (by omega)
  rw [show n / 1000000000 ^ i % 1000000000+1000000000 * (n / 1000000000 ^ i / 1000000000)=n / 1000000000 ^ i by omega] at this
  omega

/-! texts of whole numbers -/
def textI (z:Int):List UInt8:=Lib.itoa z
def readW (s:List UInt8):Option Int :=
 if Lib.hasPrefix s [45] then
    if 0 < (s.drop 1).length∧(s.drop 1).length≤600∧(∀ c∈s.drop 1,isDig c=true)∧(s.drop 1)[0]?≠some 48 then some (-(numOf (s.drop 1):Int)) else none
 else if 0 < s.length∧s.length≤600∧(∀ c∈s,isDig c=true)∧(s[0]?=some 48→s.length=1) then some (numOf s:Int) else none
theorem Ze7 {s l:List UInt8} {neg:Bool} (hn:Lib.hasPrefix s [45]=neg) (hl:Lib.trimPrefix s [45]=l) :
  readW s=if 0 < l.length∧l.length≤600∧(∀ c∈l,isDig c=true)∧(l[0]?=some 48→neg=false∧l.length=1) then some (if neg then -(numOf l:Int) else (numOf l:Int)) else none:=by
 subst hn hl
 unfold readW Lib.trimPrefix
 cases Lib.hasPrefix s [45]<;>simp
theorem Zn2 {l:List UInt8} (hd:∀ c∈l,isDig c=true) (h0:0 < l.length) (h:l[0]?≠some 48):0 < numOf l:=by
 cases l with
 | nil=>simp at h0
 | cons c l =>
  have h1:=Zc0 (a:=[c]) (b:=l)
  rw [List.singleton_append] at h1
  have h2:=Zfv.1 (hd c (List.mem_cons_self ..))
  have h3:c.toNat≠48:=fun h3=>h (by
   have:c=48:=by apply UInt8.toNat_inj.1;rw [h3];rfl
   simp [this])
  have h4:numOf [c]=dig c:=by simp [numOf]
  have h5:1≤dig c:=by unfold dig;omega
  have h6:0 < 10 ^ l.length:=Nat.pow_pos (by omega)
  have h7:=Nat.mul_le_mul_right (10 ^ l.length) h5
  rw [h1,h4];omega
def outW (z:Int):List UInt8 × Int:=if 600 < Lib.nDigits z.natAbs then ([],6) else (textI z,0)
end Go.Sx
namespace Go.Sx
open Go
theorem Ziq {X P c A B g c' d e:Nat} (h:X+P * c=A+B) (hd:g+1000000000 * c'=d+c+e):X+P * g+P * 1000000000 * c'=A+P * d+(B+P * e):=by
 have h1:P * (g+1000000000 * c')=P * (d+c+e):=by rw [hd]
 rw [Nat.mul_add,Nat.mul_add,Nat.mul_add,← Nat.mul_assoc] at h1
 omega
theorem Zl8 {X P c A B g c' d e:Nat} (h:X+B=A+P * c) (hd:g+c+e=d+1000000000 * c'):X+P * g+(B+P * e)=A+P * d+P * 1000000000 * c':=by
 have h1:P * (g+c+e)=P * (d+1000000000 * c'):=by rw [hd]
 rw [Nat.mul_add,Nat.mul_add,Nat.mul_add,← Nat.mul_assoc] at h1
 omega
theorem Zfi {xs:List Nat} {d:Nat}:valB (xs++[d])=valB xs+1000000000 ^ xs.length * d:=by
 rw [Zcf];simp [valB]
theorem Zay {xs:List Nat} {i:Nat} (h:xs.length≤i):valB (xs.take i)=valB xs:=by rw [List.take_of_length_le h]
theorem Zeo {xs:List Nat} {d:Nat} (h:∀ x∈xs,x < 1000000000) (hd:d < 1000000000):∀ x∈xs++[d],x < 1000000000:=fun x hx=>by
 rcases List.mem_append.1 hx with hx|hx
 ·exact h x hx
 ·rw [List.mem_singleton.1 hx];exact hd
theorem Zii {xs:List Nat} {i d:Nat} (h:∀ x∈xs,x < 1000000000) (hd:d < 1000000000):∀ x∈xs.set i d,x < 1000000000:=fun x hx=>by
 rcases List.mem_or_eq_of_mem_set hx with hx|rfl
 ·exact h x hx
 ·exact hd
theorem Zp0 {a b:Nat} {xs:List Nat} (hs:∀ x∈xs,x < 1000000000) (hl:xs.length=(mag a).length) (hv:valB xs=a+b) (hb:(mag b).length≤(mag a).length):xs=mag (a+b):=by
 rw [← hv]
 refine Zrd hs ?_
 by_cases h0:a=0
 ·subst h0
  rw [Zau] at hl
  exact .inl (List.length_eq_zero_iff.1 hl)
 ·have:=Zdi h0
  right
  rw [hl,hv];omega
theorem Zpz {a b:Nat} {xs:List Nat} (hs:∀ x∈xs,x < 1000000000) (_hl:xs.length=(mag a).length) (hv:valB xs+1000000000 ^ xs.length=a+b):xs++[1]=mag (a+b):=by
 have h1:valB (xs++[1])=a+b:=by rw [Zfi,Nat.mul_one];exact hv
 rw [← h1]
 refine Zrd (Zeo hs (by decide)) (.inr ?_)
 rw [h1,List.length_append,List.length_singleton,Nat.add_sub_cancel,← hv]
 omega
theorem Zof {a b:Nat} (h:(mag a).length < (mag b).length):a < b:=by
 have h1:=Zbw a
 have hb:b≠0:=fun h0=>by subst h0;rw [Zau] at h;simp at h
 have h2:=Zdi hb
 have h3:=Nat.pow_le_pow_right (n:=1000000000) (by omega) (show (mag a).length≤(mag b).length - 1 by omega)
 omega
theorem Zi6 {a b i d e:Nat} (h:a / 1000000000 ^ (i+1)=b / 1000000000 ^ (i+1)) (ha:a / 1000000000 ^ i=d+1000000000 * (a / 1000000000 ^ (i+1))) (hb:b / 1000000000 ^ i=e+1000000000 * (b / 1000000000 ^ (i+1))) (hde:d < e):a < b:=by
 rcases Nat.lt_or_ge a b with h1|h1
 ·exact h1
 ·have:=Nat.div_le_div_right (c:=1000000000 ^ i) h1
  omega
theorem Zfu {n k:Nat} (h:n < 10 ^ k):(mag n).length≤k:=by
 by_cases h0:n=0
 ·subst h0;rw [Zau];exact Nat.zero_le _
 ·have h1:=Zdi h0
  have h2:10 ^ ((mag n).length - 1)≤1000000000 ^ ((mag n).length - 1):=Nat.pow_le_pow_left (by omega) _
  rcases Nat.lt_or_ge k (mag n).length with h3|h3
  ·have h4:=Nat.pow_le_pow_right (n:=10) (by omega) (show k≤(mag n).length - 1 by omega)
   omega
  ·exact h3
theorem Zho {s:List UInt8} {z:Int} (h:readW s=some z):z.natAbs < 10 ^ 600:=by
 rw [Ze7 rfl rfl] at h
 split at h
 ·rename_i hc
  have h1:=Ze8 hc.2.2.1
  have h2:=Nat.pow_le_pow_right (n:=10) (by omega) hc.2.1
  have h3:=Option.some.inj h
  have h4:z.natAbs=numOf (Lib.trimPrefix s [45]):=by rw [← h3];split<;>omega
  rw [h4]
  exact Nat.lt_of_lt_of_le h1 h2
 ·cases h
theorem Zim {s:List UInt8} {z:Int} (h:readW s=some z):(mag z.natAbs).length≤600:=Zfu (Zho h)
theorem Zqo {k:Nat} {x y:Int} (h1:x.natAbs < 10 ^ k) (h2:y.natAbs < 10 ^ k):(mag (x+y).natAbs).length≤k+1:=by
 refine Zfu ?_
 have h3:(x+y).natAbs≤x.natAbs+y.natAbs:=by omega
 have h4:(10:Nat) ^ (k+1)=10 ^ k * 10:=Nat.pow_succ ..
 omega
theorem Zsc {x y:Int} (h1:x.natAbs < 10 ^ 600) (h2:y.natAbs < 10 ^ 600):(mag (x+y).natAbs).length≤601:=Zqo h1 h2
/-! texts of numbers are read back -/
theorem Zby {c:UInt8} {l:List UInt8}:Lib.hasPrefix (c::l) [45]=decide (c=45):=by
 unfold Lib.hasPrefix
 by_cases h:c=45
 ·subst h;rfl
 ·simp [List.isPrefixOf,h];exact fun h1=>h h1.symm
theorem Zg1 {z:Int} (h:Lib.nDigits z.natAbs≤600):readW (textI z)=some z:=by
 have hd:=Zr9 z.natAbs
 have hn:=Zn3 z.natAbs
 have hlen:=Zc6 z.natAbs
 have hp:=Zd1 z.natAbs
 have hh:∀ (P:Prop),((Lib.decDigits z.natAbs)[0]?=some 48→z.natAbs≠0→P):=fun P h0 hz=>by
  obtain ⟨c,r,h1,h2⟩:=Zqj (n:=z.natAbs) hz
  rw [h1] at h0
  simp at h0
  subst h0
  exact absurd rfl h2
 by_cases hz:z < 0
 ·have ht:textI z=45::Lib.decDigits z.natAbs:=by simp [textI,Lib.itoa,hz]
  have hc:0 < (Lib.decDigits z.natAbs).length∧(Lib.decDigits z.natAbs).length≤600∧(∀ c∈Lib.decDigits z.natAbs,isDig c=true)∧((Lib.decDigits z.natAbs)[0]?=some 48→true=false∧(Lib.decDigits z.natAbs).length=1):=⟨by omega,by omega,hd,fun h0=>hh _ h0 (by omega)⟩
  rw [ht,Ze7 (l:=Lib.decDigits z.natAbs) (neg:=true) (by rw [Zby];rfl) (by rw [Lib.trimPrefix,Zby];rfl),if_pos hc,hn]
  simp;omega
 ·have ht:textI z=Lib.decDigits z.natAbs:=by simp only [textI,Lib.itoa,if_neg hz];rw [show z.toNat=z.natAbs by omega]
  have hne:Lib.hasPrefix (Lib.decDigits z.natAbs) [45]=false:=by
   cases hl:Lib.decDigits z.natAbs with
   | nil=>rw [hl] at hlen;simp at hlen;omega
   | cons c r =>
        rw [Zby,decide_eq_false]
        rintro rfl
        have:=Zfv.1 (hd 45 (by rw [hl];exact List.mem_cons_self ..))
        have h45:(45:UInt8).toNat=45:=rfl
        omega
  have hc:0 < (Lib.decDigits z.natAbs).length∧(Lib.decDigits z.natAbs).length≤600∧(∀ c∈Lib.decDigits z.natAbs,isDig c=true)∧((Lib.decDigits z.natAbs)[0]?=some 48→false=false∧(Lib.decDigits z.natAbs).length=1):=⟨by omega,by omega,hd,fun h0=>⟨rfl,by
   by_cases h1:z.natAbs=0
   ·rw [h1,Zcd (by decide)];rfl
   ·exact hh _ h0 h1⟩⟩
  rw [ht,Ze7 (l:=Lib.decDigits z.natAbs) (neg:=false) hne (by rw [Lib.trimPrefix,hne];rfl),if_pos hc,hn]
  simp;omega
end Go.Sx
namespace Go.Sx
open Go
structure V3 where
 x:Int
 y:Int
 z:Int
deriving DecidableEq
def V3.val (p:V3):Value:=.agg #[.int .i64 p.x,.int .i64 p.y,.int .i64 p.z]
def cV3:Cod V3:=⟨3,fun p=>[.int .i64 p.x,.int .i64 p.y,.int .i64 p.z],fun _=>rfl,fun p v hv=>by
 simp only [List.mem_cons,List.not_mem_nil,or_false] at hv
 rcases hv with rfl|rfl|rfl<;>rfl⟩
instance {p:V3}:EncL cV3 p [.int .i64 p.x,.int .i64 p.y,.int .i64 p.z]:=⟨rfl⟩
instance {a b d:Int}:DecL cV3 [.int .i64 a,.int .i64 b,.int .i64 d] ⟨a,b,d⟩:=⟨rfl⟩
def V3.ok (p:V3):Prop:=IR .i64 p.x∧IR .i64 p.y∧IR .i64 p.z

theorem Zc4 {α:Type} {p:α→Bool} {l:List α} (h:∀ (j:Nat) (x:α),l[j]?=some x→p x=false):l.findIdx? p=none:=by
 rw [List.findIdx?_eq_none_iff]
 intro x hx
 obtain ⟨j,hj⟩:=List.mem_iff_getElem?.1 hx
 exact h j x hj
theorem Zc3 {α:Type} {p:α→Bool} {l:List α} {k:Nat} {x:α} (hk:l[k]?=some x) (hx:p x=true) (h:∀ (j:Nat) (y:α),j < k→l[j]?=some y→p y=false):l.findIdx? p=some k:=by
 rw [List.findIdx?_eq_some_iff_getElem]
 obtain ⟨hlt,he⟩:=List.getElem?_eq_some_iff.1 hk
 refine ⟨hlt,by rw [he];exact hx,fun j hj=>?_⟩
 have:=h j _ hj (List.getElem?_eq_getElem (by omega))
 simp [this]
def found (o:Option Nat):Value:=.tuple #[.int .i64 ((o.getD 0:Nat):Int),.bool o.isSome]

def isFar (p:V3):Bool:=decide (p.x < -200000)||decide (200000 < p.x)||decide (p.y < -200000)||decide (200000 < p.y)||decide (p.z < -200000)||decide (200000 < p.z)
def farF (pts:List V3):Option Nat:=pts.findIdx? isFar
def isWrong (n:Nat) (f:V3):Bool:=decide (f.x < 0)||decide ((n:Int)≤f.x)||decide (f.y < 0)||decide ((n:Int)≤f.y)||decide (f.z < 0)||decide ((n:Int)≤f.z)||decide (f.x=f.y)||decide (f.y=f.z)||decide (f.z=f.x)
def wrongF (n:Nat) (fcs:List V3):Option Nat:=fcs.findIdx? (isWrong n)
def V3.sub (a b:V3):V3:=⟨a.x - b.x,a.y - b.y,a.z - b.z⟩
def V3.cross (a b:V3):V3:=⟨a.y * b.z - a.z * b.y,a.z * b.x - a.x * b.z,a.x * b.y - a.y * b.x⟩
def V3.dot (a b:V3):Int:=a.x * b.x+a.y * b.y+a.z * b.z
def V3.zero:V3:=⟨0,0,0⟩
def ptAt (pts:List V3) (i:Int):V3:=(pts[i.toNat]?).getD V3.zero
def normal (pts:List V3) (f:V3):V3:=((ptAt pts f.y).sub (ptAt pts f.x)).cross ((ptAt pts f.z).sub (ptAt pts f.x))
def isFlat (pts:List V3) (f:V3):Bool:=decide (normal pts f=V3.zero)
def flatF (pts fcs:List V3):Option Nat:=fcs.findIdx? (isFlat pts)
def V3.in (n:Int) (p:V3):Prop:=-n≤p.x∧p.x≤n∧-n≤p.y∧p.y≤n∧-n≤p.z∧p.z≤n
theorem Zbm {a b m n:Int} (hm:0≤m) (hn:0≤n) (h1:-m≤a) (h2:a≤m) (h3:-n≤b) (h4:b≤n):-(m * n)≤a * b∧a * b≤m * n:=by
 have e1:a * b≤m * n∧-(m * n)≤a * b:=by
  rcases Int.le_total 0 a with ha|ha<;>rcases Int.le_total 0 b with hb|hb
  ·have p1:=Int.mul_le_mul h2 h4 hb hm
   have p2:=Int.mul_nonneg ha hb
   have p3:=Int.mul_nonneg hm hn
   omega
  ·have hb':0≤-b:=by omega
   have p1:=Int.mul_le_mul h2 (show -b≤n by omega) hb' hm
   have p2:=Int.mul_nonneg ha hb'
   have p3:=Int.mul_nonneg hm hn
   have e:a * -b=-(a * b):=Int.mul_neg a b
   omega
  ·have ha':0≤-a:=by omega
   have p1:=Int.mul_le_mul (show -a≤m by omega) h4 hb hm
   have p2:=Int.mul_nonneg ha' hb
   have p3:=Int.mul_nonneg hm hn
   have e:-a * b=-(a * b):=Int.neg_mul a b
   omega
  ·have ha':0≤-a:=by omega
   have hb':0≤-b:=by omega
   have p1:=Int.mul_le_mul (show -a≤m by omega) (show -b≤n by omega) hb' hm
   have p2:=Int.mul_nonneg ha' hb'
   have p3:=Int.mul_nonneg hm hn
   have e:-a * -b=a * b:=by rw [Int.neg_mul_neg]
   omega
 exact ⟨e1.2,e1.1⟩
theorem Zk1 {m n:Int} {a b:V3} (h:a.in m) (k:b.in n):(a.sub b).in (m+n):=by
 obtain ⟨h1,h2,h3,h4,h5,h6⟩:=h
 obtain ⟨k1,k2,k3,k4,k5,k6⟩:=k
 refine ⟨?_,?_,?_,?_,?_,?_⟩<;>simp only [V3.sub]<;>omega
theorem Zhz {m n:Int} (hm:0≤m) (hn:0≤n) {a b:V3} (h:a.in m) (k:b.in n):(a.cross b).in (2 * (m * n)):=by
 obtain ⟨h1,h2,h3,h4,h5,h6⟩:=h
 obtain ⟨k1,k2,k3,k4,k5,k6⟩:=k
 have a1:=Zbm hm hn h3 h4 k5 k6
 have a2:=Zbm hm hn h5 h6 k3 k4
 have a3:=Zbm hm hn h5 h6 k1 k2
 have a4:=Zbm hm hn h1 h2 k5 k6
 have a5:=Zbm hm hn h1 h2 k3 k4
 have a6:=Zbm hm hn h3 h4 k1 k2
 refine ⟨?_,?_,?_,?_,?_,?_⟩<;>simp only [V3.cross]<;>omega
/-! comparing points -/
class NG (P:Program) (t:TypeId):Prop where
 h:P.eqGuardType P.depth t=false
section
variable {P:Program} {N:Ctx} {w0:World} {e:Env} {As:List Ent} {ty:TypeId} {x y:Operand} {w:World}
theorem Zhn {t:TypeId} {k:IntKind} [UL P t (.int k)] (d:Nat) (a b:Int):(Op.equalIn (d+1) t (.int k a) (.int k b)).run P w=.ok (a == b) w:=by
 simp [Op.equalIn,Zan]
theorem Zfm {t:TypeId} {k:IntKind} [UL P t (.int k)] (cs:Array Value) (i:Nat) {v:Value} (h:cs[i]?=some v):(part t cs i).run P w=.ok v w:=by
 simp [part,Zb7,aggB,h]
theorem Zok {p q:V3}:p=q↔p.x=q.x∧p.y=q.y∧p.z=q.z:=by
 cases p;cases q;simp
theorem Znk {t el:TypeId} {z:Value} {b:Nat} [UL P t (.array 3 el)] [UL P el (.int .i64)] [TI P el z 1 b] (d:Nat) (p q:V3):(Op.equalIn (d+1+1) t p.val q.val).run P w=.ok (decide (p=q)) w:=by
 have hp:∀ (r:V3) (i:Nat) (v:Value),(#[Value.int .i64 r.x,.int .i64 r.y,.int .i64 r.z]:Array Value)[i]?=some v→(part el #[Value.int .i64 r.x,.int .i64 r.y,.int .i64 r.z] i).run P w=.ok v w:=fun r i v h=>Zfm _ _ h
 have p0:=fun r=>hp r 0 _ rfl
 have p1:=fun r=>hp r 1 _ rfl
 have p2:=fun r=>hp r 2 _ rfl
 unfold Op.equalIn
 simp only [V3.val,Sem.run_bind,Zan,Result.andThen_ok]
 simp only [Zat,Result.andThen_ok]
 simp [Std.Legacy.Range.forIn_eq_forIn_range',List.range'_succ,p0,p1,p2,Zhn,Zok]
 by_cases h0:p.x=q.x<;>by_cases h1:p.y=q.y<;>by_cases h2:p.z=q.z<;>simp [h0,h1,h2]
theorem Zk2 {t el:TypeId} {z:Value} {b:Nat} [UL P t (.array 3 el)] [UL P el (.int .i64)] [TI P el z 1 b] (p q:V3):(Op.equal t p.val q.val).run P w=.ok (decide (p=q)) w:=Znk 9998 p q
theorem Zfn {t:TypeId} [h:NG P t] (op:BinOp) (x y:Operand) (p q:V3):(eqGuard op t x y p.val q.val).run P w=.ok () w:=by
 unfold eqGuard
 cases op<;>simp [V3.val,h.h]
theorem Zjn {t el t':TypeId} {z:Value} {b:Nat} [UL P t (.array 3 el)] [UL P el (.int .i64)] [TI P el z 1 b] [NG P t] (p q:V3) (hx:ev e x=some p.val) (hy:ev e y=some q.val):ExF P N w0 (.binOp .eql t x y t') ty e As (.bool (decide (p=q))):=by
 unfold ExF
 intro a w ha hs d pos af g
 have h1:binOp .eql t p.val q.val=(do pure (.bool (← Op.equal t p.val q.val))):=rfl
 simp only [execOp,ha.eval hx,ha.eval hy,Sem.run_bind,Zfn,Result.andThen_ok,h1,Zk2]
 rfl
theorem Zji {t el t':TypeId} {z:Value} {b:Nat} [UL P t (.array 3 el)] [UL P el (.int .i64)] [TI P el z 1 b] [NG P t] (p q:V3) (hx:ev e x=some p.val) (hy:ev e y=some q.val):ExF P N w0 (.binOp .neq t x y t') ty e As (.bool !(decide (p=q))):=by
 unfold ExF
 intro a w ha hs d pos af g
 have h1:binOp .neq t p.val q.val=(do pure (.bool (!(← Op.equal t p.val q.val)))):=rfl
 simp only [execOp,ha.eval hx,ha.eval hy,Sem.run_bind,Zfn,Result.andThen_ok,h1,Zk2]
 rfl
theorem Zpk {t el t':TypeId} {z:Value} {b:Nat} {a1 a2 a3 b1 b2 b3:Int} [UL P t (.array 3 el)] [UL P el (.int .i64)] [TI P el z 1 b] [NG P t] (hx:ev e x=some (.agg #[.int .i64 a1,.int .i64 a2,.int .i64 a3])) (hy:ev e y=some (.agg #[.int .i64 b1,.int .i64 b2,.int .i64 b3])) :
  ExF P N w0 (.binOp .eql t x y t') ty e As (.bool (decide ((⟨a1,a2,a3⟩:V3)=⟨b1,b2,b3⟩))):=Zjn ⟨a1,a2,a3⟩ ⟨b1,b2,b3⟩ hx hy
theorem Zpf {t el t':TypeId} {z:Value} {b:Nat} {a1 a2 a3 b1 b2 b3:Int} [UL P t (.array 3 el)] [UL P el (.int .i64)] [TI P el z 1 b] [NG P t] (hx:ev e x=some (.agg #[.int .i64 a1,.int .i64 a2,.int .i64 a3])) (hy:ev e y=some (.agg #[.int .i64 b1,.int .i64 b2,.int .i64 b3])) :
  ExF P N w0 (.binOp .neq t x y t') ty e As (.bool !(decide ((⟨a1,a2,a3⟩:V3)=⟨b1,b2,b3⟩))):=Zji ⟨a1,a2,a3⟩ ⟨b1,b2,b3⟩ hx hy
end
end Go.Sx
namespace Go.Sx
open Go
abbrev Edg:=Int × Int
def cE (u:Edg):Value:=.agg #[.int .i64 u.1,.int .i64 u.2]
def cNv (n:Nat):Value:=.int .i64 (n:Int)
instance {a b:Int}:EncV cE (.agg #[.int .i64 a,.int .i64 b]) (a,b):=⟨rfl⟩
instance {n:Nat}:EncV cNv (.int .i64 (n:Int)) n:=⟨rfl⟩
instance:EncV cNv (.int .i64 0) 0:=⟨rfl⟩
section
variable {P:Program} {w:World}
theorem Zp3 {t el:TypeId} {z:Value} {b:Nat} [UL P t (.array 2 el)] [UL P el (.int .i64)] [TI P el z 1 b] (d:Nat) (p q:Edg):(Op.equalIn (d+1+1) t (cE p) (cE q)).run P w=.ok (decide (p=q)) w:=by
 have hp:∀ (r:Edg) (i:Nat) (v:Value),(#[Value.int .i64 r.1,.int .i64 r.2]:Array Value)[i]?=some v→(part el #[Value.int .i64 r.1,.int .i64 r.2] i).run P w=.ok v w:=fun r i v h=>Zfm _ _ h
 have p0:=fun r=>hp r 0 _ rfl
 have p1:=fun r=>hp r 1 _ rfl
 obtain ⟨pa,pb⟩:=p
 obtain ⟨qa,qb⟩:=q
 unfold Op.equalIn
 simp only [cE,Sem.run_bind,Zan,Result.andThen_ok]
 simp only [Zat,Result.andThen_ok]
 have p0p:=p0 (pa,pb)
 have p0q:=p0 (qa,qb)
 have p1p:=p1 (pa,pb)
 have p1q:=p1 (qa,qb)
 simp only at p0p p0q p1p p1q
 simp [Std.Legacy.Range.forIn_eq_forIn_range',List.range'_succ,p0p,p0q,Zhn]
 by_cases h0:pa=qa<;>by_cases h1:pb=qb
 ·subst h0 h1;simp [p1p,Zhn]
 ·subst h0;simp [h1,p1p,p1q,Zhn]
 ·simp [h0]
 ·simp [h0]
instance {t el:TypeId} {z:Value} {b:Nat} [UL P t (.array 2 el)] [UL P el (.int .i64)] [TI P el z 1 b]:KeyT P t Edg cE where
 check em k w:=by
  have hp:∀ (i:Nat) (v:Value),(#[Value.int .i64 k.1,.int .i64 k.2]:Array Value)[i]?=some v→(part el #[Value.int .i64 k.1,.int .i64 k.2] i).run P w=.ok v w:=fun i v h=>Zfm _ _ h
  have p0:=hp 0 _ rfl
  have p1:=hp 1 _ rfl
  have hc:∀ (n:Nat) (a:Int),(Instr.checkKey em (n+1) el (.int .i64 a)).run P w=.ok () w:=fun n a=>by simp [Instr.checkKey,Zan]
  have h2:(sizeOf el).run P w=.ok 1 w:=Zat
  show (Instr.checkKey em (9998+1+1) t (cE k)).run P w=.ok () w
  unfold Instr.checkKey
  simp only [cE,Sem.run_bind,Zan,Result.andThen_ok]
  simp [Std.Legacy.Range.forIn_eq_forIn_range',List.range'_succ,p0,p1,hc,h2]
 same k:=by
  have h1:Instr.sameBits 10000 (cE k) (cE k)=((IntKind.i64 == IntKind.i64&&k.1 == k.1)&&((IntKind.i64 == IntKind.i64&&k.2 == k.2)&&true)):=by rfl
  rw [h1]
  simp
 find:=⟨_,UL.h (P:=P) (t:=t),.inr ⟨fun a b=>rfl,fun a b w=>Zp3 9998 a b⟩⟩
end

theorem Zdl {n p:Nat} {q:Nat→Bool} (hp:p < n) (hq:q p=true) (h:∀ j,j < p→q j=false):(List.range n).find? q=some p:=by
 rw [List.find?_eq_some_iff_getElem]
 refine ⟨hq,p,by simpa using hp,by simp,fun j hj=>by simp [h j hj]⟩
theorem Zbx {n:Nat} {q:Nat→Bool} (h:∀ j,j < n→q j=false):(List.range n).find? q=none:=by
 rw [List.find?_eq_none]
 intro x hx
 simp [h x (by simpa using hx)]

def V3.edge (f:V3) (k:Nat):Edg:=if k=0 then (f.x,f.y) else if k=1 then (f.y,f.z) else (f.z,f.x)
def edgeAt (fcs:List V3) (p:Nat):Edg:=match fcs[p / 3]? with
 | some f=>f.edge (p % 3)
 | none=>(0,0)
theorem Zj5 {fcs:List V3} {i:Nat} {f:V3} (h:fcs[i]?=some f):edgeAt fcs (3 * i)=(f.x,f.y):=by
 simp [edgeAt,V3.edge,h]
theorem Zj4 {fcs:List V3} {i:Nat} {f:V3} (h:fcs[i]?=some f):edgeAt fcs (3 * i+1)=(f.y,f.z):=by
 have h1:(3 * i+1) / 3=i:=by omega
 have h2:(3 * i+1) % 3=1:=by omega
 simp [edgeAt,V3.edge,h,h1,h2]
theorem Zj3 {fcs:List V3} {i:Nat} {f:V3} (h:fcs[i]?=some f):edgeAt fcs (3 * i+2)=(f.z,f.x):=by
 have h1:(3 * i+2) / 3=i:=by omega
 have h2:(3 * i+2) % 3=2:=by omega
 simp [edgeAt,V3.edge,h,h1,h2]
def own (fcs:List V3):Nat→List (Edg × Nat)
 | 0=>[]
 | p+1=>mSet (own fcs p) (edgeAt fcs p) (p / 3)
def dup (fcs:List V3) (p:Nat):Bool:=(mGet (own fcs p) (edgeAt fcs p)).isSome
def twiceP (fcs:List V3):Option Nat:=(List.range (3 * fcs.length)).find? (dup fcs)
def twiceF (fcs:List V3):Option Nat:=(twiceP fcs).map (· / 3)
def ownF (fcs:List V3):List (Edg × Nat):=own fcs ((twiceP fcs).getD (3 * fcs.length))
def sole (fcs:List V3) (l:List (Edg × Nat)) (p:Nat):Bool:=!(mGet l (edgeAt fcs p).swap).isSome
def openP (fcs:List V3) (l:List (Edg × Nat)):Option Nat:=(List.range (3 * fcs.length)).find? (sole fcs l)
def openF (fcs:List V3) (l:List (Edg × Nat)):Option Nat:=(openP fcs l).map (· / 3)
end Go.Sx
namespace Go.Sx
open Go
def idxOf (xs:List Bool) (b:Bool):Int:=match xs.findIdx? (· == b) with
 | some k=>(k:Int)
 | none=>-1
def mark1 (u:List Bool) (f:V3):List Bool:=((u.set f.x.toNat true).set f.y.toNat true).set f.z.toNat true
def usedF (n:Nat) (fcs:List V3):List Bool:=fcs.foldl mark1 (List.replicate n false)
theorem Zb5 {u:List Bool} {f:V3}:(mark1 u f).length=u.length:=by simp [mark1]
theorem Zcb {l:List V3}:∀ {u:List Bool},(l.foldl mark1 u).length=u.length:=by
 induction l with
 | nil=>intro u;rfl
 | cons f l ih=>intro u;simp [ih,Zb5]
theorem Za1 {α β:Type} {g:β→α→β} {l:List α} {k:Nat} {x:α} {b:β} (h:l[k]?=some x):(l.take (k+1)).foldl g b=g ((l.take k).foldl g b) x:=by
 rw [List.take_add_one,h,List.foldl_append];rfl
def spareF (n:Nat) (fcs:List V3):Option Nat:=(usedF n fcs).findIdx? (· == false)
theorem Zix {xs:List Bool}:found (xs.findIdx? (· == false))=.tuple #[.int .i64 (if idxOf xs false < 0 then 0 else idxOf xs false),.bool (decide (0≤idxOf xs false))]:=by
 unfold found idxOf
 cases xs.findIdx? (· == false) with
 | none=>rfl
 | some k=>simp [show ¬ ((k:Int) < 0) from by omega]
def visit1 (ow:Edg→Nat) (s:List Bool × List Nat) (u:Edg):List Bool × List Nat :=
 if s.1[ow u]?=some true then s else (s.1.set (ow u) true,s.2++[ow u])
def visitN (ow:Edg→Nat) (s:List Bool × List Nat) (f:V3):Nat→List Bool × List Nat
 | 0=>s
 | k+1=>visit1 ow (visitN ow s f k) (f.edge k).swap
def visit (ow:Edg→Nat) (s:List Bool × List Nat) (f:V3):List Bool × List Nat:=visitN ow s f 3
def left (s:List Bool × List Nat):Nat:=s.1.count false+s.2.length
def reach (ow:Edg→Nat) (fcs:List V3):Nat→List Bool × List Nat→List Bool
 | 0,s=>s.1
 | n + 1,s=>match s.2 with
    | []=>s.1
    | x::r=>match fcs[x]? with
     | none=>s.1
     | some f=>reach ow fcs n (visit ow (s.1,r) f)
def reach0 (ow:Edg→Nat) (fcs:List V3):List Bool:=reach ow fcs fcs.length ((List.replicate fcs.length false).set 0 true,[0])
def apartF (ow:Edg→Nat) (fcs:List V3):Option Nat:=(reach0 ow fcs).findIdx? (· == false)
theorem Zf1 {l:List Bool} {i:Nat} (h:l[i]?=some false):(l.set i true).count false+1=l.count false:=by
 induction l generalizing i with
 | nil=>cases h
 | cons x l ih =>
  cases i with
  | zero=>simp at h;subst h;simp
  | succ i =>
   have:=ih (i:=i) (by simpa using h)
   cases x<;>simp<;>omega
theorem Zjs {ow:Edg→Nat} {s:List Bool × List Nat} {u:Edg} (h:ow u < s.1.length):left (visit1 ow s u)=left s:=by
 unfold visit1
 split
 ·rfl
 ·rename_i hn
  have:s.1[ow u]?=some false:=by
   rw [List.getElem?_eq_getElem h] at hn ⊢
   cases hb:s.1[ow u]<;>simp_all
  have:=Zf1 this
  simp only [left,List.length_append,List.length_cons,List.length_nil]
  omega
theorem Zhj {ow:Edg→Nat} {s:List Bool × List Nat} {u:Edg}:(visit1 ow s u).1.length=s.1.length:=by
 unfold visit1;split<;>simp
theorem Zbg {ow:Edg→Nat} {s:List Bool × List Nat} {f:V3} {k:Nat}:(visitN ow s f k).1.length=s.1.length:=by
 induction k with
 | zero=>rfl
 | succ k ih=>rw [visitN,Zhj,ih]
theorem Zfe {ow:Edg→Nat} {s:List Bool × List Nat} {f:V3} {k:Nat} (h:∀ j,j < k→ow (f.edge j).swap < s.1.length):left (visitN ow s f k)=left s:=by
 induction k with
 | zero=>rfl
 | succ k ih=>rw [visitN,Zjs (by rw [Zbg];exact h k (by omega)),ih fun j hj=>h j (by omega)]
theorem Zlz {ow:Edg→Nat} {s:List Bool × List Nat} {u:Edg} {n:Nat} (h:ow u < n) (hs:∀ x∈s.2,x < n):∀ x∈(visit1 ow s u).2,x < n:=by
 unfold visit1
 split
 ·exact hs
 ·intro x hx
  rcases List.mem_append.1 hx with hx|hx
  ·exact hs x hx
  ·rw [List.mem_singleton.1 hx];exact h
theorem Zgv {ow:Edg→Nat} {s:List Bool × List Nat} {f:V3} {n k:Nat} (h:∀ j,j < k→ow (f.edge j).swap < n) (hs:∀ x∈s.2,x < n):∀ x∈(visitN ow s f k).2,x < n:=by
 induction k with
 | zero=>exact hs
 | succ k ih=>exact Zlz (h k (by omega)) (ih fun j hj=>h j (by omega))
theorem Znn {ow:Edg→Nat} {fcs:List V3} {k:Nat} {r:List Bool}:reach ow fcs k (r,[])=r:=by
 cases k<;>rfl
end Go.Sx
namespace Go.Sx
open Go
def firstOf:List (Option Nat)→Nat→Nat × Nat
 | [],_=>(0,0)
 | o::r,k=>match o with
    | some i=>(k,i)
    | none=>firstOf r (k+1)
def flawM (pts fcs:List V3):Nat × Nat :=
 if pts.length < 4∨300 < pts.length then (1,0)
 else if fcs.length < 4∨600 < fcs.length then (1,1)
 else firstOf [farF pts,wrongF pts.length fcs,flatF pts fcs,twiceF fcs,openF fcs (ownF fcs),spareF pts.length fcs,apartF (fun u=>(mGet (ownF fcs) u).getD 0) fcs] 2
def flawV (r:Nat × Nat):Value:=.tuple #[.int .i64 (r.1:Int),.int .i64 (r.2:Int)]
theorem Zhv {pts:List V3} (h:farF pts=none):∀ p∈pts,p.in 200000:=by
 intro p hp
 have:=List.findIdx?_eq_none_iff.1 h p hp
 simp only [isFar,Bool.or_eq_false_iff,decide_eq_false_iff_not] at this
 exact ⟨by omega,by omega,by omega,by omega,by omega,by omega⟩
theorem Zdd {n:Nat} {fcs:List V3} (h:wrongF n fcs=none):∀ f∈fcs,isWrong n f=false:=List.findIdx?_eq_none_iff.1 h
theorem Zq9 {fcs:List V3}:∀ {p:Nat} {u:Edg} {g:Nat},p≤3 * fcs.length→mGet (own fcs p) u=some g→g < fcs.length
 | 0,u,g,_,h=>by cases h
 | p+1,u,g,hp,h=>by
  rw [own,Zdk] at h
  split at h
  ·cases h;omega
  ·exact Zq9 (by omega) h
theorem Za2 {fcs:List V3} {i k:Nat} {f:V3} (h:fcs[i]?=some f) (hk:k < 3):edgeAt fcs (3 * i+k)=f.edge k:=by
 have h1:(3 * i+k) / 3=i:=by omega
 have h2:(3 * i+k) % 3=k:=by omega
 simp [edgeAt,h,h1,h2]
theorem Zn1 {fcs:List V3} (h:openF fcs (ownF fcs)=none):∀ f∈fcs,∀ k,k < 3→∃ g,g < fcs.length∧mGet (ownF fcs) (f.edge k).swap=some g:=by
 intro f hf k hk
 obtain ⟨i,hi⟩:=List.mem_iff_getElem?.1 hf
 have hlt:i < fcs.length:=(List.getElem?_eq_some_iff.1 hi).1
 simp only [openF,Option.map_eq_none_iff,openP] at h
 have h1:=List.find?_eq_none.1 h (3 * i+k) (by simp;omega)
 rw [sole,Za2 hi hk] at h1
 obtain ⟨g,hg⟩:=Option.ne_none_iff_exists'.1 (show mGet (ownF fcs) (f.edge k).swap≠none by simpa using h1)
 refine ⟨g,Zq9 (p:=(twiceP fcs).getD (3 * fcs.length)) ?_ hg,hg⟩
 cases ht:twiceP fcs with
 | none=>simp
 | some p =>
  have:=List.mem_of_find?_eq_some ht
  simp at this
  simp;omega
def chkM (pts fcs:List V3):Int:=if (flawM pts fcs).1=0 then 0 else 350
section
variable {P:Program} {N:Ctx} {w0:World} {e:Env} {As:List Ent} {ty:TypeId} {x y:Operand} {v:Value} {α:Type} {c:Cod α} {xs:List α}
theorem Zpo {f:FuncId} {args:List Value} {K:Value→List Ent→Prop} (h:CallsS P w0 f args As K) (hK:∀ v Bs,K v Bs→RdIn Bs v α c xs):CallsS P w0 f args As (fun v Bs=>∃ p cap,v=.slice p xs.length cap∧K v Bs):=CallsS.mk fun w hs =>
 (h.out w hs).mono fun en w' ⟨v,Bs,h1,h2,h3⟩=>by
  obtain ⟨p,cap,hv,_⟩:=((hK v Bs h2).get w0 w' h3).len
  exact ⟨v,Bs,h1,⟨p,cap,hv,h2⟩,h3⟩
theorem Zmn {t el t':TypeId} [UL P t (.slice el)] [hr:RdIn As v α c xs] (hx:ev e x=some v) (hy:ev e y=some (.slice none 0 0)):ExR P N w0 (.binOp .eql t x y t') ty e As (fun u As'=>∃ b:Bool,u=.bool b∧(b=true→xs=[])∧As'=As):=by
 unfold ExR
 intro a w ha hs d pos af g
 rcases hr.get w0 w hs with ⟨⟨p,rfl⟩,rfl⟩|⟨b,off,cap,front,rest,T,fr,rfl,h2,h3,h4⟩
 ·exact ⟨.bool p.isNone,w,As,by simp [execOp,ha.eval hx,ha.eval hy,eqGuard,Lib.run_eql_slice_nil w t el p 0 0 0 0 UL.h],⟨_,rfl,fun _=>rfl,rfl⟩,hs⟩
 ·exact ⟨.bool false,w,As,by simp [execOp,ha.eval hx,ha.eval hy,eqGuard,Lib.run_eql_slice_nil w t el (some ⟨b,off,none⟩) xs.length cap 0 0 UL.h],⟨_,rfl,(fun h=>by cases h),rfl⟩,hs⟩
end
end Go.Sx
namespace Go.Sx
open Go
def V3.add (a b:V3):V3:=⟨a.x+b.x,a.y+b.y,a.z+b.z⟩
theorem Ziw {p:V3}:isFar p=true↔p.x < -200000∨200000 < p.x∨p.y < -200000∨200000 < p.y∨p.z < -200000∨200000 < p.z:=by
 simp [isFar,or_assoc]
theorem Zqg {p:V3}:isFar p=false↔¬ (p.x < -200000∨200000 < p.x∨p.y < -200000∨200000 < p.y∨p.z < -200000∨200000 < p.z):=by
 rw [← Ziw];simp
def V3.mn (a b:V3):V3:=⟨if b.x < a.x then b.x else a.x,if b.y < a.y then b.y else a.y,if b.z < a.z then b.z else a.z⟩
def V3.mx (a b:V3):V3:=⟨if a.x < b.x then b.x else a.x,if a.y < b.y then b.y else a.y,if a.z < b.z then b.z else a.z⟩
def swapF (f:V3):V3:=⟨f.x,f.z,f.y⟩
def okM (pts fcs:List V3):Prop:=(flawM pts fcs).1=0
instance {pts fcs:List V3}:Decidable (okM pts fcs):=inferInstanceAs (Decidable (_=_))
theorem Zi7 {pts fcs:List V3} (h:chkM pts fcs=0):okM pts fcs:=by
 unfold chkM at h;unfold okM
 split at h
 ·assumption
 ·cases h
theorem Zi8 {pts fcs:List V3} (h:¬ chkM pts fcs=0):¬ okM pts fcs∧chkM pts fcs=350:=by
 unfold chkM at h ⊢;unfold okM
 split at h
 ·exact absurd rfl h
 ·rename_i h1;exact ⟨h1,by rw [if_neg h1]⟩
theorem Zg5:∀ (l:List (Option Nat)) (k:Nat),0 < k→(firstOf l k).1=0→∀ o∈l,o=none
 | [],_,_,_,o,ho=>by cases ho
 | some i::r,k,hk,h,o,ho=>by simp only [firstOf] at h;omega
 | none::r,k,hk,h,o,ho=>by
  rcases List.mem_cons.1 ho with rfl|ho
  ·rfl
  ·exact Zg5 r (k+1) (by omega) h o ho
structure Good (pts fcs:List V3):Prop where
 p4:4≤pts.length
 p300:pts.length≤300
 f4:4≤fcs.length
 f600:fcs.length≤600
 far:farF pts=none
 wrong:wrongF pts.length fcs=none
 flat:flatF pts fcs=none
 twice:twiceF fcs=none
 opn:openF fcs (ownF fcs)=none
 spare:spareF pts.length fcs=none
 apart:apartF (fun u=>(mGet (ownF fcs) u).getD 0) fcs=none
theorem Ztx {pts fcs:List V3}:okM pts fcs↔Good pts fcs:=by
 constructor
 ·intro h
  unfold okM flawM at h
  split at h
  ·cases h
  split at h
  ·cases h
  have:=Zg5 _ _ (by decide) h
  exact ⟨by omega,by omega,by omega,by omega,this _ (by simp),this _ (by simp),this _ (by simp),this _ (by simp),this _ (by simp),this _ (by simp),this _ (by simp)⟩
 ·rintro ⟨a1,a2,a3,a4,h1,h2,h3,h4,h5,h6,h7⟩
  unfold okM flawM
  rw [if_neg (by omega),if_neg (by omega),h1,h2,h3,h4,h5,h6,h7]
  rfl
def boxM (pts fcs:List V3):V3 × V3 × Int:=if okM pts fcs then (pts.foldl V3.mn (ptAt pts 0),pts.foldl V3.mx (ptAt pts 0),0) else (V3.zero,V3.zero,350)
def eulerM (pts fcs:List V3):Int × Int × Int:=if okM pts fcs then (((3 * fcs.length / 2:Nat):Int),(pts.length:Int) - ((3 * fcs.length / 2:Nat):Int)+fcs.length,0) else (0,0,350)
def turnedM (pts fcs:List V3):Int × List V3 × List V3:=if okM pts fcs then (0,pts,fcs.map swapF) else (350,[],[])
def bigBy (v:V3):Bool:=decide (v.x < -400000)||decide (400000 < v.x)||decide (v.y < -400000)||decide (400000 < v.y)||decide (v.z < -400000)||decide (400000 < v.z)
def movedM (pts fcs:List V3) (v:V3):Int × List V3 × List V3 :=
 if okM pts fcs then if bigBy v=true∨(pts.map (·.add v)).any isFar=true then (6,[],[]) else (0,pts.map (·.add v),fcs) else (350,[],[])
theorem Zfr {α:Type} {f:α→α} {l:List α} {k:Nat} {x:α} (h:l[k]?=some x):((l.take k).map f++l.drop k)[k]?=some x:=by
 have hk:=(List.getElem?_eq_some_iff.1 h).1
 have e:((l.take k).map f).length=k:=by simp;omega
 rw [List.getElem?_append_right (by omega),e,Nat.sub_self,List.getElem?_drop,Nat.add_zero,h]
theorem Zfq {α:Type} {f:α→α} {l:List α} {k:Nat} {x y:α} (h:l[k]?=some x) (hy:y=f x):((l.take k).map f++l.drop k).set k y=(l.take (k+1)).map f++l.drop (k+1):=by
 subst hy
 have hk:=(List.getElem?_eq_some_iff.1 h).1
 have hx:=(List.getElem?_eq_some_iff.1 h).2
 have e:((l.take k).map f).length=k:=by simp;omega
 rw [List.set_append_right k (f x) (by omega),e,Nat.sub_self,List.drop_eq_getElem_cons hk,hx,List.set_cons_zero,List.take_succ_eq_append_getElem hk,hx]
 simp
theorem Zdu {α:Type} {f:α→α} {l:List α} {k:Nat}:((l.take k).map f++l.drop k).length=l.length:=by simp;omega
end Go.Sx
namespace Go.Sx
open Go
def faceV (pts:List V3) (f:V3):Int:=(ptAt pts f.x).dot ((ptAt pts f.y).cross (ptAt pts f.z))
def volM (pts fcs:List V3):Int:=fcs.foldl (fun s f=>s+faceV pts f) 0
theorem Zd0 {n:Int} (hn:0≤n) {pts:List V3} (h:∀ p∈pts,p.in n) (i:Int):(ptAt pts i).in n:=by
 unfold ptAt
 cases hp:pts[i.toNat]? with
 | none =>
  refine ⟨?_,?_,?_,?_,?_,?_⟩<;>simp [V3.zero]<;>omega
 | some p=>exact h p (List.mem_of_getElem? hp)
theorem Zs9 {m n:Int} (hm:0≤m) (hn:0≤n) {a b:V3} (h:a.in m) (k:b.in n):-(3 * (m * n))≤a.dot b∧a.dot b≤3 * (m * n):=by
 obtain ⟨h1,h2,h3,h4,h5,h6⟩:=h
 obtain ⟨k1,k2,k3,k4,k5,k6⟩:=k
 have a1:=Zbm hm hn h1 h2 k1 k2
 have a2:=Zbm hm hn h3 h4 k3 k4
 have a3:=Zbm hm hn h5 h6 k5 k6
 simp only [V3.dot]
 omega
theorem Zlb {pts:List V3} (h:∀ p∈pts,p.in 200000) (f:V3):-48000000000000000≤faceV pts f∧faceV pts f≤48000000000000000:=by
 have:=Zs9 (by decide) (by decide) (Zd0 (by decide) h f.x) (Zhz (by decide) (by decide) (Zd0 (by decide) h f.y) (Zd0 (by decide) h f.z))
 unfold faceV
 omega
theorem Zgt {pts:List V3} (h:∀ p∈pts,p.in 200000) (fcs:List V3):∀ k:Nat,-(48000000000000000 * (k:Int))≤volM pts (fcs.take k)∧volM pts (fcs.take k)≤48000000000000000 * (k:Int)
 | 0=>by simp [volM]
 | k + 1=>by
  have ih:=Zgt h fcs k
  cases hf:fcs[k]? with
  | none =>
     have h1:fcs.take (k+1)=fcs.take k:=by
       have:=List.getElem?_eq_none_iff.1 hf
       rw [List.take_of_length_le (by omega),List.take_of_length_le (by omega)]
     rw [h1];omega
  | some f =>
     have h1:volM pts (fcs.take (k+1))=volM pts (fcs.take k)+faceV pts f:=by
       unfold volM;rw [Za1 hf]
     have h2:=Zlb h f
     rw [h1];omega
end Go.Sx
namespace Go.Sx
open Go
def tetP:List V3:=[⟨0,0,0⟩,⟨1000,0,0⟩,⟨0,1000,0⟩,⟨0,0,1000⟩]
def tetF:List V3:=[⟨0,2,1⟩,⟨0,1,3⟩,⟨0,3,2⟩,⟨1,2,3⟩]
theorem Zq6:flawM tetP tetF=(0,0):=by decide
theorem Zpw:flawM tetP (tetF.take 3)=(1,1):=by decide
theorem Zl2:flawM tetP (tetF.set 3 ⟨1,3,2⟩)=(5,3):=by decide
theorem Zpx:flawM (tetP.set 3 ⟨0,500,0⟩) tetF=(4,2):=by decide
theorem Zm9:flawM tetP (tetF.set 2 ⟨3,3,2⟩)=(3,2):=by decide
theorem Zrt:volM tetP tetF=1000000000:=by decide
theorem Zpu:volM tetP (tetF.map swapF)=-1000000000:=by decide
theorem Zru:okM tetP (tetF.map swapF):=by decide
theorem Zpv:textI 1000000000=[49,48,48,48,48,48,48,48,48,48]:=by
 simp [textI,Lib.itoa,Lib.decDigits]
theorem Zna:textI (-1000000000)=[45,49,48,48,48,48,48,48,48,48,48]:=by
 simp [textI,Lib.itoa,Lib.decDigits]
theorem Znc:eulerM tetP tetF=(6,2,0):=by decide
theorem Zrv:boxM tetP tetF=(⟨0,0,0⟩,⟨1000,1000,1000⟩,0):=by decide
theorem Znb:movedM tetP tetF ⟨199000,0,0⟩=(0,tetP.map (·.add ⟨199000,0,0⟩),tetF):=by decide
theorem Zl3:movedM tetP tetF ⟨199001,0,0⟩=(6,[],[]):=by decide
theorem Zjt:turnedM tetP tetF=(0,tetP,tetF.map swapF):=by decide
end Go.Sx
namespace Go.Sx
open Go
end Go.Sx
namespace Go.Sx
open Go
def shapeP:Nat→List V3
 | 0=>[⟨0,0,0⟩,⟨2,0,0⟩,⟨0,2,0⟩,⟨0,0,2⟩]
 | 1=>[⟨1,0,0⟩,⟨-1,0,0⟩,⟨0,1,0⟩,⟨0,-1,0⟩,⟨0,0,1⟩,⟨0,0,-1⟩]
 | 2=>[⟨0,0,0⟩,⟨1,0,0⟩,⟨1,1,0⟩,⟨0,1,0⟩,⟨0,0,1⟩,⟨1,0,1⟩,⟨1,1,1⟩,⟨0,1,1⟩]
 | _=>[⟨0,0,0⟩,⟨3,1,0⟩,⟨0,2,0⟩,⟨1,1,0⟩,⟨0,0,2⟩,⟨3,1,2⟩,⟨0,2,2⟩,⟨1,1,2⟩]
def shapeF:Nat→List V3
 | 0=>[⟨0,2,1⟩,⟨0,1,3⟩,⟨0,3,2⟩,⟨1,2,3⟩]
 | 1=>[⟨0,2,4⟩,⟨2,1,4⟩,⟨1,3,4⟩,⟨3,0,4⟩,⟨2,0,5⟩,⟨1,2,5⟩,⟨3,1,5⟩,⟨0,3,5⟩]
 | 2=>[⟨0,2,1⟩,⟨0,3,2⟩,⟨4,5,6⟩,⟨4,6,7⟩,⟨0,1,5⟩,⟨0,5,4⟩,⟨1,2,6⟩,⟨1,6,5⟩,⟨2,3,7⟩,⟨2,7,6⟩,⟨3,0,4⟩,⟨3,4,7⟩]
 | _=>[⟨0,3,1⟩,⟨3,2,1⟩,⟨4,5,7⟩,⟨7,5,6⟩,⟨0,1,5⟩,⟨0,5,4⟩,⟨1,2,6⟩,⟨1,6,5⟩,⟨2,3,7⟩,⟨2,7,6⟩,⟨3,0,4⟩,⟨3,4,7⟩]
def V3.lay (s:Int) (at_ p:V3):V3:=⟨p.x * s+at_.x,p.y * s+at_.y,p.z * s+at_.z⟩
def offP (off:List Int) (i:Nat) (p:V3):V3:=⟨p.x+off[3 * i]?.getD 0,p.y+off[3 * i+1]?.getD 0,p.z+off[3 * i+2]?.getD 0⟩
def offM (off:List Int) (l:List V3):List V3:=l.mapIdx (offP off)
def plainM (k:Nat) (s:Int) (at_:V3):List V3:=(shapeP k).map (V3.lay s at_)
def baseM (k:Nat) (s:Int) (at_:V3) (off:List Int):List V3:=if okM (offM off (plainM k s at_)) (shapeF k) then offM off (plainM k s at_) else plainM k s at_
def draftM (k:Nat) (s:Int) (at_:V3) (off:List Int) (turned:Bool):List V3 × List V3 :=
 if turned then (turnedM (baseM k s at_ off) (shapeF k)).2 else (baseM k s at_ off,shapeF k)
instance {n:Int} {p:V3}:Decidable (p.in n):=inferInstanceAs (Decidable (_∧_))
theorem Zam {α β:Type} {f:α→β} {l:List α} {k:Nat} {x:α} (h:l[k]?=some x):(l.take (k+1)).map f=(l.take k).map f++[f x]:=by
 rw [List.take_add_one,h];simp
def besideF (n:Int) (f:V3):V3:=⟨IntKind.i64.wrap (f.x+n),IntKind.i64.wrap (f.y+n),IntKind.i64.wrap (f.z+n)⟩
def besideP (p:V3):V3:=⟨IntKind.i64.wrap (p.x+5000),p.y,p.z⟩
def shareI (n i:Int):Int:=if 0 < i then IntKind.i64.wrap (i+(n - 1)) else i
def shareF (n:Int) (f:V3):V3:=⟨shareI n f.x,shareI n f.y,shareI n f.z⟩
def shareC (a b:Int):Int:=IntKind.i64.wrap (IntKind.i64.wrap (2 * a) - b)
def shareP (o p:V3):V3:=⟨shareC o.x p.x,shareC o.y p.y,shareC o.z p.z⟩
def BendOk (what:Nat) (pts fcs pts' fcs':List V3):Prop:=pts'.length≤80∧fcs'.length≤80 ∧
 (what % 12=8→pts≠[]→fcs≠[]→pts.length≤40→fcs.length≤40→pts'=pts++pts.map besideP∧fcs'=fcs++fcs.map (besideF pts.length)) ∧
 (what % 12=10→pts≠[]→fcs≠[]→pts.length≤40→fcs.length≤40→pts'=pts++(pts.drop 1).map (shareP (ptAt pts 0))∧fcs'=fcs++fcs.map (shareF pts.length))
theorem Zar {what:Nat} {pts fcs pts' fcs':List V3} (h1:pts'.length≤80) (h2:fcs'.length≤80) (h3:what % 12≠8) (h4:what % 12≠10):BendOk what pts fcs pts' fcs':=⟨h1,h2,fun h=>absurd h h3,fun h=>absurd h h4⟩
end Go.Sx
