/- Walks: the reference of the chapter on whole numbers: lists of digits. -/
import Derived.Test.YtbfgldlfciimiaaGreatDoorWa3
import Derived.Test.YtbfgldlfciimiaaGreatDoorPl
import Derived.Test.YtbfgldlfciimiaaGreatDoorSxB
import Derived.Laws.IdiomStrings
set_option maxHeartbeats 1000000
namespace Go.Sx
open Go
section
variable {P:Program} {N:Ctx} {w0:World} {e:Env} {As rest:List Ent} {ty:TypeId} {x:Operand}
theorem Z03 {t t' el T:TypeId} {b n cap:Nat} {cs:List Value} (l:List UInt8) [ht:UL P t (.slice el)] [he:UL P el (.int .u8)] [hd:UL P t' .string] (hx:ev e x=some (.slice (some ⟨b,0,none⟩) n cap)) [TakeC As b cs T rest] (hl:cs=l.map fun c=>Value.int .u8 (c.toNat:Int)) (hn:n=l.length) :
  ExF P N w0 (.convert t t' x) ty e As (.string ⟨l.toArray⟩):=by
 subst hn
 unfold ExF
 intro a w ha hs d pos af g
 have hw:=Ze2 (b:=b) (l:=cs) (T:=T) (rest:=rest) hs
 have:=run_convert_bytes_back (P:=P) w t t' el (some ⟨b,0,none⟩).get! cap l ht.h he.h hd.h (fun j hj=>by
  show w.cell? ((⟨b,0,none⟩:Addr).add j)=_
  rw [Zal]
  simp only [World.cell?,hw,hl]
  simp [hj])
 simp only [execOp,ha.eval hx]
 simp only [Option.get!] at this
 simp [this]
end
end Go.Sx
namespace Go.Proofs.YtbfgldlfciimiaaGreatDoor
open Go Go.Sx
variable {w0:World} {As:List Ent}
instance:ElC Tryz.prog 3 Nat (cN .i64) 0 8:=⟨by obtain ⟨i,h1,h2,h3,h4⟩:=(inferInstance:TI Tryz.prog 3 _ _ _).info;exact ⟨i,_,h1,h2,h3,h4,rfl⟩,by decide⟩
def QudR (As:List Ent) (n:Nat) (v:Value) (Bs:List Ent):Prop:=∃ p cap,v=.slice p (qud n).length cap∧Bs=.ft (rd (cN .i64) v (qud n))::As
theorem Yak {f:FuncId} {args:List Value} {n:Nat} (h:CallsS Tryz.prog w0 f args As fun v Bs=>Bs=.ft (rd (cN .i64) v (qud n))::As):CallsS Tryz.prog w0 f args As (QudR As n) :=
 (Zps (cd:=cN .i64) (xs:=qud n) h fun v Bs h=>by rw [h];infer_instance).mono fun _ _ ⟨p,cap,h1,h2⟩=>⟨p,cap,h1,h2⟩
theorem Zkz {v:Value} {xs:List Nat} [hf:FtIn As v Nat (cN .i64) xs] (hs:∀ d∈xs,d < 10000) (hl:xs.length≤1000000000):CallsS Tryz.prog w0 190 [v] As (QudR As (valQ xs)):=by
 refine Yak ?_
 rw [← Zl2 hs]
 refine Zab Tryz.func190 rfl Tryz.ntmps190 rfl ?_
 repeat' first|refine Kz ?_|intro _
 refine Tri.loop (ι:=Nat) (fun n=>n≤xs.length∧trimL (xs.take n)=trimL xs) (fun n=>n)
  (fun n=>[(0,v),(3,.int .i64 (n:Int))]) (fun _=>As) xs.length ⟨Nat.le_refl _,by rw [List.take_length]⟩ Zad Zaa ?_
 rintro n ⟨hn,ht⟩
 cases n with
 | zero =>
  repeat' first|refine Kz ?_|intro _
  (refine Zac ?_)
  refine ⟨_,rfl,?_⟩
  rw [← ht,show trimL (xs.take 0)=(xs.drop 0).take (0 - 0) from rfl]
  (exact Zaa)
 | succ n =>
  obtain ⟨d,hd⟩:∃ d,xs[n]?=some d:=⟨_,List.getElem?_eq_getElem (by omega)⟩
  have e1:((n+1:Nat):Int) - 1=(n:Int):=by omega
  have et:xs.take (n+1)=xs.take n++[d]:=by rw [List.take_add_one,hd];rfl
  repeat' first|refine Kz ?_|intro _
  (refine Kx (fun hc=>?_) fun hc=>?_)
  ·have hd0:d=0:=by omega
   subst hd0
   repeat' first|refine Kz ?_|intro _
   exact Post.round n ⟨by omega,by rw [← ht,et,Zhc]⟩ (by omega) Zad Zaa
  ·repeat' first|refine Kz ?_|intro _
   (refine Zac ?_)
   refine ⟨_,rfl,?_⟩
   rw [← ht,et,Zee (by omega),← et,show xs.take (n+1)=(xs.drop 0).take (n+1 - 0) by simp]
   (exact Zaa)
def PlainR (As:List Ent) (z:Int) (u:Value) (Bs:List Ent):Prop:=∃ p cap,u=.agg #[.bool (decide (z < 0)),.slice p (qud z.natAbs).length cap]∧Bs=.ft (rd (cN .i64) (.slice p (qud z.natAbs).length cap) (qud z.natAbs))::As
theorem Zfg {b:Bool} {v:Value} {xs:List Nat} [hf:FtIn As v Nat (cN .i64) xs] (hs:∀ d∈xs,d < 10000) (hl:xs.length≤1000000000) {z:Int} (h1:z.natAbs=valQ xs) (h2:decide (z < 0)=(b&&decide (valQ xs≠0))) :
  CallsS Tryz.prog w0 150 [.bool b,v] As (PlainR As z):=by
 refine Zab Tryz.func150 rfl Tryz.ntmps150 rfl ?_
 unfold PlainR
 rw [h1,h2]
 have h0:(0 < ((qud (valQ xs)).length:Int))↔valQ xs≠0:=by
  have:=Zxh (n:=valQ xs)
  constructor
  ·intro h h'
   have:=this.2 h'
   omega
  ·intro h
   have h':(qud (valQ xs)).length≠0:=fun h'=>h (this.1 h')
   omega
 repeat' first|refine Kz ?_|intro _
 refine TL.call rfl rfl rfl (Zkz hs hl) ?_
 rintro _ _ ⟨p,cap,rfl,rfl⟩
 cases b
 ·repeat' first|refine Kz ?_|intro _
  (refine Zac ?_)
  exact ⟨_,⟨_,_,rfl,rfl⟩,Zaa⟩
 ·repeat' first|refine Kz ?_|intro _
  (refine Zac ?_)
  refine ⟨_,⟨p,cap,?_,rfl⟩,Zaa⟩
  simp only [Bool.true_and,h0]
def RawR (As:List Ent) (n:Nat) (v:Value) (Bs:List Ent):Prop:=∃ xs:List Nat,valQ xs=n∧(∀ d∈xs,d < 10000)∧xs.length≤100000000∧Bs=.ow (cN .i64) 3 v xs::As
theorem Z93 {v o:Value} {a b:Nat} [hf:RdIn As v Nat (cN .i64) (qud a)] [hg:RdIn As o Nat (cN .i64) (qud b)] (ha:(qud a).length≤10000000) (hb:(qud b).length≤10000000):CallsS Tryz.prog w0 224 [v,o] As (RawR As (a+b)):=by
 have hsa:=Za4 a
 have hsb:=Za4 b
 refine Zab Tryz.func224 rfl Tryz.ntmps224 rfl ?_
 repeat' first|refine Kz ?_|intro _
 refine Tri.ents (Za3 (T:=3) (cN .i64)) ?_
 refine Tri.loop (ι:=Nat × Value × List Nat × Nat) (fun s=>s.1≤max (qud a).length (qud b).length+1∧(s.1=max (qud a).length (qud b).length+1→s.2.2.2=0)∧s.2.2.1.length=s.1∧(∀ x∈s.2.2.1,x < 10000)∧s.2.2.2≤1∧valQ s.2.2.1+10000 ^ s.1 * s.2.2.2=valQ ((qud a).take s.1)+valQ ((qud b).take s.1)) (fun s=>max (qud a).length (qud b).length+1 - s.1)
  (fun s=>[(0,v),(1,o),(5,s.2.1),(6,.int .i64 (s.2.2.2:Int)),(7,.int .i64 (s.1:Int))]) (fun s=>.ow (cN .i64) 3 s.2.1 s.2.2.1::As)
  (0,.slice none 0 0,[],0) ⟨by omega,fun h=>rfl,rfl,(fun _ h=>by cases h),Nat.zero_le 1,by simp [valQ]⟩ Zad Zaa ?_
 rintro ⟨i,sv,xs,c⟩ ⟨hi,hic,hxl,hxs,hc1,hval⟩
 simp only at hi hic hxl hxs hc1 hval
 show Tri _ _ _ _ [(0,v),(1,o),(5,sv),(6,.int .i64 (c:Int)),(7,.int .i64 (i:Int))] (.ow (cN .i64) 3 sv xs::As) _
 by_cases hgo:i < (qud a).length∨i < (qud b).length∨0 < c
 ·obtain ⟨d,hd9,hta,had⟩:∃ d,d < 10000∧valQ ((qud a).take (i+1))=valQ ((qud a).take i)+10000 ^ i * d∧((i < (qud a).length∧(qud a)[i]?=some d)∨(¬ i < (qud a).length∧d=0)):=by
   by_cases h:i < (qud a).length
   ·have h1:(qud a)[i]?=some (qud a)[i]:=List.getElem?_eq_getElem h
    exact ⟨_,hsa _ (List.mem_of_getElem? h1),Zeo h1,.inl ⟨h,h1⟩⟩
   ·exact ⟨0,by omega,by rw [List.take_of_length_le (by omega),List.take_of_length_le (by omega)];omega,.inr ⟨h,rfl⟩⟩
  obtain ⟨ee,he9,htb,heb⟩:∃ ee,ee < 10000∧valQ ((qud b).take (i+1))=valQ ((qud b).take i)+10000 ^ i * ee∧((i < (qud b).length∧(qud b)[i]?=some ee)∨(¬ i < (qud b).length∧ee=0)):=by
   by_cases h:i < (qud b).length
   ·have h1:(qud b)[i]?=some (qud b)[i]:=List.getElem?_eq_getElem h
    exact ⟨_,hsb _ (List.mem_of_getElem? h1),Zeo h1,.inl ⟨h,h1⟩⟩
   ·exact ⟨0,by omega,by rw [List.take_of_length_le (by omega),List.take_of_length_le (by omega)];omega,.inr ⟨h,rfl⟩⟩
  have hxl2:xs.length≤20000000:=by omega
  have hnew:∀ t:Nat,t=c+d+ee→valQ (xs++[t % 10000])+10000 ^ (i+1) * (t / 10000)=valQ ((qud a).take (i+1))+valQ ((qud b).take (i+1)):=fun t ht=>by
   rw [Zcg,hxl,hta,htb,Nat.pow_succ]
   simp only [valQ,Nat.mul_zero,Nat.add_zero]
   have h1:10000 ^ i * (t % 10000)+10000 ^ i * 10000 * (t / 10000)=10000 ^ i * t:=by
    rw [Nat.mul_assoc,← Nat.mul_add];congr 1;omega
   have h2:10000 ^ i * t=10000 ^ i * c+10000 ^ i * d+10000 ^ i * ee:=by rw [ht,Nat.mul_add,Nat.mul_add]
   omega
  have hend:i=max (qud a).length (qud b).length→(c+d+ee) / 10000=0:=fun h=>by
   rcases had with ⟨h1,_⟩|⟨_,rfl⟩
   ·omega
   ·rcases heb with ⟨h1,_⟩|⟨_,rfl⟩<;>omega
  rcases had with ⟨h1,h2⟩|⟨h1,rfl⟩<;>rcases heb with ⟨k1,k2⟩|⟨k1,rfl⟩
  all_goals
   repeat' first|refine Kf ?_|intro _|constructor
   rename_i v9
   refine Post.round (i+1,v9,xs++[(c+_+_) % 10000],(c+_+_) / 10000) ⟨by simp only;omega,fun h=>hend (by simp only at h;omega),by simp [hxl],fun x hx=>?_,by simp only;omega,hnew _ rfl⟩ (by simp only;omega) Zad (Ents.refl _)
   rcases List.mem_append.1 hx with hx|hx
   ·exact hxs x hx
   ·rw [List.mem_singleton.1 hx];omega
 ·have hc0:c=0:=by omega
  subst hc0
  rw [List.take_of_length_le (by omega),List.take_of_length_le (by omega),Za0,Za0,Nat.mul_zero,Nat.add_zero] at hval
  repeat' first|refine Kz ?_|intro _
  (refine Zac ?_)
  exact ⟨_,⟨xs,hval,hxs,by omega,rfl⟩,Zaa⟩
theorem Zfi {v o:Value} {a b:Nat} [hf:RdIn As v Nat (cN .i64) (qud a)] [hg:RdIn As o Nat (cN .i64) (qud b)] (hab:b≤a) (ha:(qud a).length≤10000000):CallsS Tryz.prog w0 211 [v,o] As (QudR As (a - b)):=by
 have hlb:=Zcb hab
 have hsa:=Za4 a
 have hsb:=Za4 b
 refine Zab Tryz.func211 rfl Tryz.ntmps211 rfl ?_
 repeat' first|refine Kz ?_|intro _
 refine Tri.ents (Za3 (T:=3) (cN .i64)) ?_
 refine Tri.loop (ι:=Nat × Value × List Nat × Nat) (fun s=>s.1≤(qud a).length∧s.2.2.1.length=s.1∧(∀ x∈s.2.2.1,x < 10000)∧s.2.2.2≤1∧valQ s.2.2.1+valQ ((qud b).take s.1)=valQ ((qud a).take s.1)+10000 ^ s.1 * s.2.2.2) (fun s=>(qud a).length - s.1)
  (fun s=>[(0,v),(1,o),(5,s.2.1),(6,.int .i64 (s.2.2.2:Int)),(7,.int .i64 (s.1:Int))]) (fun s=>.ow (cN .i64) 3 s.2.1 s.2.2.1::As)
  (0,.slice none 0 0,[],0) ⟨by omega,rfl,(fun _ h=>by cases h),Nat.zero_le 1,by simp [valQ]⟩ Zad Zaa ?_
 rintro ⟨i,sv,xs,c⟩ ⟨hi,hxl,hxs,hc1,hval⟩
 simp only at hi hxl hxs hc1 hval
 show Tri _ _ _ _ [(0,v),(1,o),(5,sv),(6,.int .i64 (c:Int)),(7,.int .i64 (i:Int))] (.ow (cN .i64) 3 sv xs::As) _
 repeat' first|refine Kz ?_|intro _
 (refine Kx (fun hc=>?_) fun hc=>?_)
 ·obtain ⟨d,hd⟩:∃ d,(qud a)[i]?=some d:=⟨_,List.getElem?_eq_getElem (by omega)⟩
  have hd9:=hsa d (List.mem_of_getElem? hd)
  have hta:=Zeo hd
  obtain ⟨ee,he9,htb,heb⟩:∃ ee,ee < 10000∧valQ ((qud b).take (i+1))=valQ ((qud b).take i)+10000 ^ i * ee∧((i < (qud b).length∧(qud b)[i]?=some ee)∨(¬ i < (qud b).length∧ee=0)):=by
   by_cases h:i < (qud b).length
   ·have h1:(qud b)[i]?=some (qud b)[i]:=List.getElem?_eq_getElem h
    exact ⟨_,hsb _ (List.mem_of_getElem? h1),Zeo h1,.inl ⟨h,h1⟩⟩
   ·exact ⟨0,by omega,by rw [List.take_of_length_le (by omega),List.take_of_length_le (by omega)];omega,.inr ⟨h,rfl⟩⟩
  have hnew:∀ g c',g+c+ee=d+10000 * c'→valQ (xs++[g])+valQ ((qud b).take (i+1))=valQ ((qud a).take (i+1))+10000 ^ (i+1) * c':=fun g c' h=>by
   rw [Zcg,hxl,hta,htb,Nat.pow_succ]
   simp only [valQ,Nat.mul_zero,Nat.add_zero]
   have h1:10000 ^ i * g+10000 ^ i * c+10000 ^ i * ee=10000 ^ i * d+10000 ^ i * 10000 * c':=by
    rw [← Nat.mul_add,← Nat.mul_add,h,Nat.mul_add,Nat.mul_assoc]
   omega
  have hsm:∀ g,g < 10000→∀ x∈xs++[g],x < 10000:=fun g hg x hx=>by
   rcases List.mem_append.1 hx with hx|hx
   ·exact hxs x hx
   ·rw [List.mem_singleton.1 hx];exact hg
  have hfin:∀ z:Int,z=(d:Int) - c - ee→True:=fun _ _=>trivial
  by_cases hneg:d < c+ee
  ·have e9:((d:Int) - c - ee+10000)=((d+10000 - c - ee:Nat):Int):=by omega
   have e8:((d:Int) - c+10000)=((d+10000 - c - 0:Nat):Int)∨0 < ee:=by omega
   rcases heb with ⟨k1,k2⟩|⟨k1,rfl⟩
   ·repeat' first|refine Kz ?_|intro _
    rw [e9]
    repeat' first|refine Kz ?_|intro _
    rename_i v9
    refine Post.round (i+1,v9,xs++[d+10000 - c - ee],1) ⟨by simp only;omega,by simp [hxl],hsm _ (by omega),Nat.le_refl 1,hnew _ 1 (by omega)⟩ (by simp only;omega) Zad Zaa
   ·have e7:((d:Int) - c+10000)=((d+10000 - c:Nat):Int):=by omega
    repeat' first|refine Kz ?_|intro _
    rw [e7]
    repeat' first|refine Kz ?_|intro _
    rename_i v9
    refine Post.round (i+1,v9,xs++[d+10000 - c],1) ⟨by simp only;omega,by simp [hxl],hsm _ (by omega),Nat.le_refl 1,hnew _ 1 (by omega)⟩ (by simp only;omega) Zad Zaa
  ·rcases heb with ⟨k1,k2⟩|⟨k1,rfl⟩
   ·have e9:((d:Int) - c - ee)=((d - c - ee:Nat):Int):=by omega
    repeat' first|refine Kz ?_|intro _
    rw [e9]
    repeat' first|refine Kz ?_|intro _
    rename_i v9
    refine Post.round (i+1,v9,xs++[d - c - ee],0) ⟨by simp only;omega,by simp [hxl],hsm _ (by omega),Nat.zero_le 1,hnew _ 0 (by omega)⟩ (by simp only;omega) Zad Zaa
   ·have e9:((d:Int) - c)=((d - c:Nat):Int):=by omega
    repeat' first|refine Kz ?_|intro _
    rw [e9]
    repeat' first|refine Kz ?_|intro _
    rename_i v9
    refine Post.round (i+1,v9,xs++[d - c],0) ⟨by simp only;omega,by simp [hxl],hsm _ (by omega),Nat.zero_le 1,hnew _ 0 (by omega)⟩ (by simp only;omega) Zad Zaa
 ·have hie:i=(qud a).length:=by omega
  rw [List.take_of_length_le (by omega),List.take_of_length_le (by omega),Za0,Za0] at hval
  have hX:=Zlz hxs
  rw [hxl] at hX
  have hc0:c=0:=by
   rcases Nat.lt_or_ge 0 c with h|h
   ·have:c=1:=by omega
    subst this
    omega
   ·omega
  subst hc0
  have hv:valQ xs=a - b:=by omega
  repeat' first|refine Kz ?_|intro _
  refine TL.ents Ents.freeze ?_
  refine TL.call rfl rfl rfl (Zkz hxs (by omega)) ?_
  rintro _ _ ⟨p,cap,rfl,rfl⟩
  rw [hv]
  repeat' first|refine Kz ?_|intro _
  (refine Zac ?_)
  exact ⟨_,⟨p,cap,rfl,rfl⟩,Zaa⟩
end Go.Proofs.YtbfgldlfciimiaaGreatDoor
namespace Go.Sx
theorem Zxi {a b:Nat} (h:(qud a).length < (qud b).length):a < b:=by
 rcases Nat.lt_or_ge a b with h1|h1
 ·exact h1
 ·have:=Zcb h1;omega
theorem Zos {a b i d e:Nat} (h:a / 10000 ^ (i+1)=b / 10000 ^ (i+1)) (ha:a / 10000 ^ i=d+10000 * (a / 10000 ^ (i+1))) (hb:b / 10000 ^ i=e+10000 * (b / 10000 ^ (i+1))) (hde:d < e):a < b:=by
 rcases Nat.lt_or_ge a b with h1|h1
 ·exact h1
 ·have:=Nat.div_le_div_right (c:=10000 ^ i) h1;omega
theorem pad4 (n:Nat):pad 4 n=[UInt8.ofNat (48+n / 1000 % 10),UInt8.ofNat (48+n / 100 % 10),UInt8.ofNat (48+n / 10 % 10),UInt8.ofNat (48+n % 10)]:=by
 simp [pad,Nat.div_div_eq_div_mul]
theorem Yc8:textI 0=[48]:=by
 rw [Zb4,if_neg (by omega),show (0:Int).natAbs=0 from rfl,Zb7 (by omega)];rfl
theorem Zf1 {k:Nat} (h:k < 10):((UInt8.ofNat (48+k)).toNat:Int)=48+k:=by rw [(Zkx h).2.2];omega
end Go.Sx
namespace Go.Proofs.YtbfgldlfciimiaaGreatDoor
open Go Go.Sx
variable {w0:World} {As:List Ent}
theorem Zsx {v o:Value} {a b:Nat} [hf:RdIn As v Nat (cN .i64) (qud a)] [hg:RdIn As o Nat (cN .i64) (qud b)] (ha:(qud a).length≤100000000) (hb:(qud b).length≤100000000) :
  CallsS Tryz.prog w0 210 [v,o] As fun u Bs=>∃ r:Int,u=.int .i64 r∧((r < 0∧a < b)∨(r=0∧a=b)∨(0 < r∧b < a))∧Bs=As:=by
 refine Zab Tryz.func210 rfl Tryz.ntmps210 rfl ?_
 repeat' first|refine Kz ?_|intro _
 (refine Kx (fun hc=>?_) fun hc=>?_)
 ·repeat' first|refine Kz ?_|intro _
  (refine Zac ?_)
  refine ⟨_,⟨_,rfl,?_,rfl⟩,Zaa⟩
  rcases Nat.lt_or_gt_of_ne (show (qud a).length≠(qud b).length by omega) with h|h
  ·exact .inl ⟨by omega,Zxi h⟩
  ·exact .inr (.inr ⟨by omega,Zxi h⟩)
 ·have hlen:(qud b).length=(qud a).length:=by omega
  have hdiv:∀ {n:Nat},(qud n).length=(qud a).length→n / 10000 ^ (qud a).length=0:=fun h=>by rw [← h];exact Nat.div_eq_of_lt (Zbi _)
  have hsa:=Za4 a
  have hsb:=Za4 b
  repeat' first|refine Kz ?_|intro _
  refine Tri.loop (ι:=Nat) (fun j=>j≤(qud a).length∧a / 10000 ^ j=b / 10000 ^ j) (fun j=>j)
   (fun j=>[(0,v),(1,o),(5,.int .i64 ((j:Int) - 1))]) (fun _=>As) (qud a).length ⟨Nat.le_refl _,by rw [hdiv rfl,hdiv hlen]⟩ Zad Zaa ?_
  intro j ⟨hj,hq⟩
  cases j with
  | zero =>
   rw [show ((0:Nat):Int) - 1=-1 from rfl]
   repeat' first|refine Kz ?_|intro _
   (refine Zac ?_)
   have:a=b:=by simpa using hq
   subst this
   exact ⟨_,⟨_,rfl,.inr (.inl ⟨rfl,rfl⟩),rfl⟩,Zaa⟩
  | succ j =>
   rw [show ((j+1:Nat):Int) - 1=(j:Int) by omega]
   obtain ⟨d,hd⟩:∃ d,(qud a)[j]?=some d:=⟨_,List.getElem?_eq_getElem (by omega)⟩
   obtain ⟨ee,he⟩:∃ d,(qud b)[j]?=some d:=⟨_,List.getElem?_eq_getElem (by omega)⟩
   obtain ⟨k1,_,_⟩:=Zj0 hd
   obtain ⟨l1,_,_⟩:=Zj0 he
   repeat' first|refine Kz ?_|intro _
   refine Zam (.take 0 (.take 1 (.take 2 (.take 3 (.take 4 (.take 5 (.take 6 (.take 7 (.take 8 (.done)))))))))) ?_
   repeat' first|refine Kf ?_|intro _|constructor
   (refine Kx (fun hc=>?_) fun hc=>?_)
   ·repeat' first|refine Kf ?_|intro _|constructor
    refine Zam (.take 0 (.take 1 (.take 2 (.take 3 (.take 4 (.take 5 (.take 6 (.take 7 (.take 8 (.take 9 (.done))))))))))) ?_
    repeat' first|refine Kf ?_|intro _|constructor
    (refine Zac ?_)
    refine ⟨_,⟨_,rfl,?_,rfl⟩,Zaa⟩
    rcases Nat.lt_or_gt_of_ne (show d≠ee by omega) with h|h
    ·exact .inl ⟨by omega,Zos hq k1 l1 h⟩
    ·exact .inr (.inr ⟨by omega,Zos hq.symm l1 k1 h⟩)
   ·repeat' first|refine Kf ?_|intro _|constructor
    refine Post.round j ⟨by omega,?_⟩ (by omega) Zad Zaa
    have:d=ee:=by omega
    rw [k1,l1,hq,this]
theorem Z7s {n:Nat} (hn:n < 10000):CQ Tryz.prog w0 171 [.int .i64 (n:Int)] As (.string ⟨(pad 4 n).toArray⟩):=by
 refine Zab Tryz.func171 rfl Tryz.ntmps171 rfl ?_
 repeat' first|refine Kz ?_|intro _
 refine TL.f rfl rfl (Z03 (pad 4 n) rfl ?_ (Zmg 4 n).symm) ?_
 ·rw [pad4]
  simp only [List.map_cons,List.map_nil]
  rw [Zf1 (by omega),Zf1 (by omega),Zf1 (by omega),Zf1 (by omega)]
  rw [show n / 1000 % 10=n / 1000 by omega]
  rfl
 repeat' first|refine Kz ?_|intro _
 exact Kv
theorem Zw2 {v:Value} {z:Int} [hf:RdIn As v Nat (cN .i64) (qud z.natAbs)] (ha:(qud z.natAbs).length≤100000000) :
  CQ Tryz.prog w0 128 [.agg #[.bool (decide (z < 0)),v]] As (.string ⟨(textI z).toArray⟩):=by
 refine Zas v fun hv=>?_
 refine Zab Tryz.func128 rfl Tryz.ntmps128 rfl ?_
 have hsm:=Za4 z.natAbs
 repeat' first|refine Kz ?_|intro _
 rename_i b1
 refine Tri.loop (ι:=Nat) (fun j=>j≤(qud z.natAbs).length) (fun j=>j)
  (fun j=>[(1,.pointer (some ⟨b1,0,none⟩)),(3,.string ⟨(fullQ ((qud z.natAbs).drop j)).toArray⟩),(4,.int .i64 ((j:Int) - 1))]) (fun _=>.cl b1 [.bool (decide (z < 0)),v] 132::As) (qud z.natAbs).length (Nat.le_refl _) (by rw [List.drop_length];(exact Zad)) Zaa ?_
 intro j hj
 have hfl:(fullQ ((qud z.natAbs).drop j)).length≤400000000:=by rw [Zti,List.length_drop];omega
 cases j with
 | succ j =>
  rw [show ((j+1:Nat):Int) - 1=(j:Int) by omega]
  obtain ⟨d,hd⟩:∃ d,(qud z.natAbs)[j]?=some d:=⟨_,List.getElem?_eq_getElem (by omega)⟩
  have hd4:=hsm d (List.mem_of_getElem? hd)
  have hp4:=Zmg 4 d
  repeat' first|refine Kz ?_|intro _
  refine Kt rfl (Z7s hd4) ?_
  repeat' first|refine Kz ?_|intro _
  refine Post.round j (by omega) (by omega) ?_ Zaa
  have e:(qud z.natAbs).drop j=d::(qud z.natAbs).drop (j+1):=by
   rw [List.drop_eq_getElem_cons (by omega)]
   rw [List.getElem?_eq_getElem (by omega)] at hd
   rw [Option.some.inj hd]
  rw [e,Zhq]
  (exact Zad)
 | zero =>
  rw [show ((0:Nat):Int) - 1=-1 from rfl,List.drop_zero]
  have hfd:=Ztj (qud z.natAbs)
  have hfn:=Zth _ hsm
  rw [Za0] at hfn
  rw [List.drop_zero] at hfl
  generalize fullQ (qud z.natAbs)=l at hfl hfd hfn ⊢
  repeat' first|refine Kz ?_|intro _
  refine Tri.loop (ι:=Nat) (fun k=>k≤l.length∧∀ (j:Nat) (c:UInt8),j < k→l[j]?=some c→c=48) (fun k=>l.length - k)
   (fun k=>[(1,.pointer (some ⟨b1,0,none⟩)),(3,.string ⟨l.toArray⟩),(5,.int .i64 (k:Int))]) (fun _=>.cl b1 [.bool (decide (z < 0)),v] 132::As) 0 ⟨Nat.zero_le _,fun _ _ h=>absurd h (Nat.not_lt_zero _)⟩ Zad Zaa ?_
  intro k ⟨hk,hz⟩
  by_cases hkl:k < l.length
  ·obtain ⟨c,hc⟩:∃ c,l[k]?=some c:=⟨_,List.getElem?_eq_getElem hkl⟩
   repeat' first|refine Kz ?_|intro _
   refine Zt5 rfl (fun hcc=>?_) (fun hcc=>?_)
   ·have h48:c=48:=by apply UInt8.toNat_inj.1;show c.toNat=48;omega
    repeat' first|refine Kz ?_|intro _
    refine Post.round (k+1) ⟨by omega,fun j x hj hx=>?_⟩ (by omega) Zad Zaa
    rcases Nat.lt_or_ge j k with h1|h1
    ·exact hz j x h1 hx
    ·rw [show j=k by omega,hc] at hx;cases hx;exact h48
   ·have hn:l[k]?≠some 48:=fun h=>by
     rw [hc] at h
     cases h
     exact hcc rfl
    have hst:=Zr9 hfd hk hz hn
    rw [hfn] at hst
    repeat' first|refine Kz ?_|intro _
    rw [show (l.drop k).take (l.length - k)=l.drop k from List.take_of_length_le (by simp),hst]
    by_cases h0:z.natAbs=0
    ·rw [if_pos h0]
     have hz0:z=0:=by omega
     subst hz0
     repeat' first|refine Kz ?_|intro _
     (refine Zac ?_)
     exact ⟨_,⟨by rw [Yc8],rfl⟩,Zaa⟩
    ·rw [if_neg h0]
     obtain ⟨c0,r0,hcr,_⟩:=Zq9 h0
     have hne:Lib.decDigits z.natAbs≠[]:=by rw [hcr];simp
     have hdl:(Lib.decDigits z.natAbs).length≤400000000:=by
      have:=congrArg List.length hst
      rw [if_neg h0,List.length_drop] at this
      omega
     by_cases hneg:z < 0
     ·rw [decide_eq_true hneg]
      repeat' first|refine Kz ?_|intro _
      (refine Zac ?_)
      exact ⟨_,⟨by rw [Zb4,if_pos hneg];rfl,rfl⟩,Zaa⟩
     ·rw [decide_eq_false hneg]
      repeat' first|refine Kz ?_|intro _
      (refine Zac ?_)
      exact ⟨_,⟨by rw [Zb4,if_neg hneg],rfl⟩,Zaa⟩
  ·have hst:=Zr9 hfd hk hz (by rw [List.getElem?_eq_none (by omega)];simp)
   rw [hfn] at hst
   repeat' first|refine Kz ?_|intro _
   rw [show (l.drop k).take (l.length - k)=l.drop k from List.take_of_length_le (by simp),hst]
   by_cases h0:z.natAbs=0
   ·rw [if_pos h0]
    have hz0:z=0:=by omega
    subst hz0
    repeat' first|refine Kz ?_|intro _
    (refine Zac ?_)
    exact ⟨_,⟨by rw [Yc8],rfl⟩,Zaa⟩
   ·rw [if_neg h0]
    obtain ⟨c0,r0,hcr,_⟩:=Zq9 h0
    have hne:Lib.decDigits z.natAbs≠[]:=by rw [hcr];simp
    have hdl:(Lib.decDigits z.natAbs).length≤400000000:=by
     have:=congrArg List.length hst
     rw [if_neg h0,List.length_drop] at this
     omega
    by_cases hneg:z < 0
    ·rw [decide_eq_true hneg]
     repeat' first|refine Kz ?_|intro _
     (refine Zac ?_)
     exact ⟨_,⟨by rw [Zb4,if_pos hneg];rfl,rfl⟩,Zaa⟩
    ·rw [decide_eq_false hneg]
     repeat' first|refine Kz ?_|intro _
     (refine Zac ?_)
     exact ⟨_,⟨by rw [Zb4,if_neg hneg],rfl⟩,Zaa⟩
end Go.Proofs.YtbfgldlfciimiaaGreatDoor
namespace Go.Sx
theorem Zl3 (z:Int):(textI z).length=Lib.nDigits z.natAbs+(if z < 0 then 1 else 0):=by
 rw [Zb4]
 split<;>simp [Zbm]
theorem Zvj {n:Nat}:Lib.nDigits n≤4 * (qud n).length+1:=by
 have h1:=Zbi n
 rw [show (10000:Nat)=10 ^ 4 from rfl,← Nat.pow_mul] at h1
 exact Zbt (Nat.lt_of_lt_of_le h1 (Nat.pow_le_pow_right (by omega) (by omega)))
end Go.Sx
namespace Go.Proofs.YtbfgldlfciimiaaGreatDoor
open Go Go.Sx
variable {w0:World} {As:List Ent}
theorem Z2r {v:Value} {z:Int} [hf:RdIn As v Nat (cN .i64) (qud z.natAbs)] (ha:(qud z.natAbs).length≤100000000) :
  CQ Tryz.prog w0 100 [.agg #[.bool (decide (z < 0)),v]] As (.tuple #[.string ⟨(outW z).1.toArray⟩,.int .i64 (outW z).2]):=by
 refine Zas v fun hv=>?_
 have htl:=Zl3 z
 have hnq:=Zvj (n:=z.natAbs)
 refine Zab Tryz.func100 rfl Tryz.ntmps100 rfl ?_
 repeat' first|refine Kz ?_|intro _
 refine Kt rfl (Zw2 ha) ?_
 by_cases hn:z < 0
 ·rw [if_pos hn] at htl
  rw [decide_eq_true hn]
  repeat' first|refine Kz ?_|intro _
  (refine Kx (fun hc=>?_) fun hc=>?_)
  ·repeat' first|refine Kz ?_|intro _
   (refine Zac ?_)
   exact ⟨_,⟨by rw [outW,if_pos (by omega)],rfl⟩,Zaa⟩
  ·repeat' first|refine Kz ?_|intro _
   (refine Zac ?_)
   exact ⟨_,⟨by rw [outW,if_neg (by omega)],rfl⟩,Zaa⟩
 ·rw [if_neg hn] at htl
  rw [decide_eq_false hn]
  repeat' first|refine Kz ?_|intro _
  (refine Kx (fun hc=>?_) fun hc=>?_)
  ·repeat' first|refine Kz ?_|intro _
   (refine Zac ?_)
   exact ⟨_,⟨by rw [outW,if_pos (by omega)],rfl⟩,Zaa⟩
  ·repeat' first|refine Kz ?_|intro _
   (refine Zac ?_)
   exact ⟨_,⟨by rw [outW,if_neg (by omega)],rfl⟩,Zaa⟩
theorem Zqc {v o:Value} {x y:Int} [hf:RdIn As v Nat (cN .i64) (qud x.natAbs)] [hg:RdIn As o Nat (cN .i64) (qud y.natAbs)] (ha:(qud x.natAbs).length≤10000000) (hb:(qud y.natAbs).length≤10000000) :
  CallsS Tryz.prog w0 189 [.agg #[.bool (decide (x < 0)),v],.agg #[.bool (decide (y < 0)),o]] As (PlainR As (x+y)):=by
 refine Zas v fun hv=>Zas o fun ho=>?_
 refine Zab Tryz.func189 rfl Tryz.ntmps189 rfl ?_
 repeat' first|refine Kz ?_|intro _
 rename_i b2 b3 b4
 by_cases hs:decide (x < 0)=decide (y < 0)
 ·refine Zjq rfl hs ?_
  repeat' first|refine Kz ?_|intro _
  refine Zam (.take 0 (.take 1 (.take 2 (.take 3 (.take 4 (.take 5 (.all [(6,.all [(7,.all [(8,.done)])])]))))))) ?_
  repeat' first|refine Kf ?_|intro _|constructor
  refine T1.call rfl rfl rfl rfl (Z93 ha hb) ?_
  rintro u _ ⟨xs,hxv,hxs,hxl,rfl⟩
  repeat' first|refine Kf ?_|intro _|constructor
  have hs':x < 0↔y < 0:=by simpa using hs
  refine T1.call rfl rfl rfl rfl (CallsS.ents Ents.freeze (Zfg (z:=x+y) hxs (by omega) (by omega) (by rw [Bool.eq_iff_iff];simp only [Bool.and_eq_true,decide_eq_true_eq];omega))) ?_
  rintro _ _ ⟨p,cap,rfl,rfl⟩
  repeat' first|refine Kf ?_|intro _|constructor
  (refine Zac ?_)
  exact ⟨_,⟨p,cap,rfl,rfl⟩,Zaa⟩
 ·refine Zjr rfl hs ?_
  have hs':¬ (x < 0↔y < 0):=by simpa using hs
  repeat' first|refine Kf ?_|intro _|constructor
  refine TL.call rfl rfl rfl (Zsx (by omega) (by omega)) ?_
  rintro _ _ ⟨r,rfl,hr,rfl⟩
  by_cases hge:0≤r
  ·have hle:y.natAbs≤x.natAbs:=by omega
   have hlq:=Zcb (show x.natAbs - y.natAbs≤x.natAbs by omega)
   repeat' first|refine Kz ?_|intro _
   refine Zam (.take 0 (.take 1 (.take 2 (.take 3 (.take 4 (.take 5 (.all [(6,.all [(7,.all [(8,.done)])])]))))))) ?_
   repeat' first|refine Kf ?_|intro _|constructor
   refine T1.call rfl rfl rfl rfl (Zfi hle (by omega)) ?_
   rintro _ _ ⟨p,cap,rfl,rfl⟩
   repeat' first|refine Kf ?_|intro _|constructor
   refine T1.call rfl rfl rfl rfl (Zfg (z:=x+y) (Za4 _) (by omega) (by rw [Za0];omega) (by rw [Bool.eq_iff_iff,Za0];simp only [Bool.and_eq_true,decide_eq_true_eq];omega)) ?_
   rintro _ _ ⟨p,cap,rfl,rfl⟩
   repeat' first|refine Kf ?_|intro _|constructor
   (refine Zac ?_)
   exact ⟨_,⟨p,cap,rfl,rfl⟩,Zaa⟩
  ·have hle:x.natAbs≤y.natAbs:=by omega
   have hlq:=Zcb (show y.natAbs - x.natAbs≤y.natAbs by omega)
   repeat' first|refine Kz ?_|intro _
   refine Zam (.take 0 (.take 1 (.take 2 (.take 3 (.take 4 (.take 5 (.all [(6,.all [(7,.all [(8,.done)])])]))))))) ?_
   repeat' first|refine Kf ?_|intro _|constructor
   refine T1.call rfl rfl rfl rfl (Zfi hle (by omega)) ?_
   rintro _ _ ⟨p,cap,rfl,rfl⟩
   repeat' first|refine Kf ?_|intro _|constructor
   refine T1.call rfl rfl rfl rfl (Zfg (z:=x+y) (Za4 _) (by omega) (by rw [Za0];omega) (by rw [Bool.eq_iff_iff,Za0];simp only [Bool.and_eq_true,decide_eq_true_eq];omega)) ?_
   rintro _ _ ⟨p,cap,rfl,rfl⟩
   repeat' first|refine Kf ?_|intro _|constructor
   (refine Zac ?_)
   exact ⟨_,⟨p,cap,rfl,rfl⟩,Zaa⟩
theorem Yd6 (k:Nat):(-(k:Int)).tmod 10000=-((k % 10000:Nat):Int):=by
 rw [Int.neg_tmod,Int.tmod_eq_emod_of_nonneg (by omega)];omega
theorem Z9b (k:Nat):(-(k:Int)).tdiv 10000=-((k / 10000:Nat):Int):=by
 rw [Int.neg_tdiv,Int.tdiv_eq_ediv_of_nonneg (by omega)];omega
theorem Zqo {k X n:Nat} {xs:List Nat} (hval:valQ xs+10000 ^ xs.length * k=n) (hX:X=k % 10000):valQ (xs++[X])+10000 ^ (xs++[X]).length * (k / 10000)=n:=by
 subst hX
 rw [Zcg,List.length_append,List.length_cons,List.length_nil,Nat.zero_add,Nat.pow_succ]
 simp only [valQ,Nat.mul_zero,Nat.add_zero]
 have h1:10000 ^ xs.length * (k % 10000)+10000 ^ xs.length * 10000 * (k / 10000)=10000 ^ xs.length * k:=by
  rw [Nat.mul_assoc,← Nat.mul_add];congr 1;omega
 omega
theorem Z96 {xs:List Nat} {g:Nat} (h:∀ x∈xs,x < 10000) (hg:g < 10000):∀ x∈xs++[g],x < 10000:=fun x hx=>by
 rcases List.mem_append.1 hx with hx|hx
 ·exact h x hx
 ·rw [List.mem_singleton.1 hx];exact hg
theorem Zvq {k n:Nat} {xs:List Nat} (hk:k≠0) (hval:valQ xs+10000 ^ xs.length * k=n):10000 ^ xs.length≤n:=by
 have:=Nat.mul_le_mul_left (10000 ^ xs.length) (show 1≤k by omega)
 omega
theorem Zdp {n:Int} (h0:-9223372036854775808≤n) (h1:n≤9223372036854775807):CallsS Tryz.prog w0 102 [.int .i64 n] As (PlainR As n):=by
 refine Zab Tryz.func102 rfl Tryz.ntmps102 rfl ?_
 repeat' first|refine Kz ?_|intro _
 rename_i b2
 refine Tri.ents (Za3 (T:=3) (cN .i64)) ?_
 have hlen:∀ xs:List Nat,(xs.length=0∨10000 ^ (xs.length - 1)≤n.natAbs)→xs.length≤5:=fun xs h=>by
  rcases h with h|h
  ·omega
  ·rcases Nat.lt_or_ge xs.length 6 with h2|h2
   ·omega
   ·have:=Nat.pow_le_pow_right (n:=10000) (by omega) (show 5≤xs.length - 1 by omega)
    omega
 by_cases hn:n < 0
 ·rw [decide_eq_true hn]
  refine Tri.loop (ι:=Nat × Value × List Nat) (fun s=>s.1≤9223372036854775808∧(∀ x∈s.2.2,x < 10000)∧valQ s.2.2+10000 ^ s.2.2.length * s.1=n.natAbs∧(s.2.2.length=0∨10000 ^ (s.2.2.length - 1)≤n.natAbs)) (fun s=>s.1)
   (fun s=>[(0,.int .i64 (-(s.1:Int))),(2,.pointer (some ⟨b2,0,none⟩)),(3,s.2.1),(4,.bool true)]) (fun s=>.ow (cN .i64) 3 s.2.1 s.2.2::.cl b2 [.bool false,.slice none 0 0] 132::As)
   (n.natAbs,.slice none 0 0,[]) ⟨by simp only;omega,(fun _ h=>by cases h),by simp [valQ],.inl rfl⟩ (by simp only;rw [show -((n.natAbs:Nat):Int)=n by omega];(exact Zad)) Zaa ?_
  rintro ⟨k,sv,xs⟩ ⟨hk,hxs,hval,hpow⟩
  simp only at hk hxs hval hpow
  show Tri _ _ _ _ [(0,.int .i64 (-(k:Int))),(2,_),(3,sv),(4,_)] (.ow (cN .i64) 3 sv xs::_) _
  have hxl:=hlen xs hpow
  by_cases hk0:k=0
  ·subst hk0
   rw [Nat.mul_zero,Nat.add_zero] at hval
   repeat' first|refine Kz ?_|intro _
   refine TL.call rfl rfl rfl (CallsS.ents Ents.freeze (Zfg (z:=n) hxs (by omega) hval.symm (by rw [Bool.eq_iff_iff];simp only [Bool.true_and,decide_eq_true_eq];omega))) ?_
   rintro _ _ ⟨p,cap,rfl,rfl⟩
   repeat' first|refine Kz ?_|intro _
   (refine Zac ?_)
   exact ⟨_,⟨p,cap,rfl,rfl⟩,Zaa⟩
  ·repeat' first|refine Kz ?_|intro _
   rw [Yd6]
   by_cases hg:k % 10000=0
   ·have e0:-((k % 10000:Nat):Int)=((k % 10000:Nat):Int):=by omega
    repeat' first|refine Kz ?_|intro _
    rw [e0]
    repeat' first|refine Kz ?_|intro _
    rename_i v9
    refine TL.f rfl rfl (ExF.quo rfl rfl (by decide)) ?_
    rw [Z9b,Zbr (k:=.i64) ⟨by omega,by omega⟩]
    repeat' first|refine Kz ?_|intro _
    exact Post.round (k / 10000,v9,xs++[k % 10000]) ⟨by simp only;omega,Z96 hxs (by omega),Zqo hval rfl,.inr (by simpa using Zvq hk0 hval)⟩ (by simp only;omega) Zad Zaa
   ·repeat' first|refine Kz ?_|intro _
    rw [Int.neg_neg]
    repeat' first|refine Kz ?_|intro _
    rename_i v9
    refine TL.f rfl rfl (ExF.quo rfl rfl (by decide)) ?_
    rw [Z9b,Zbr (k:=.i64) ⟨by omega,by omega⟩]
    repeat' first|refine Kz ?_|intro _
    exact Post.round (k / 10000,v9,xs++[k % 10000]) ⟨by simp only;omega,Z96 hxs (by omega),Zqo hval rfl,.inr (by simpa using Zvq hk0 hval)⟩ (by simp only;omega) Zad Zaa
 ·rw [decide_eq_false hn]
  refine Tri.loop (ι:=Nat × Value × List Nat) (fun s=>s.1≤9223372036854775807∧(∀ x∈s.2.2,x < 10000)∧valQ s.2.2+10000 ^ s.2.2.length * s.1=n.natAbs∧(s.2.2.length=0∨10000 ^ (s.2.2.length - 1)≤n.natAbs)) (fun s=>s.1)
   (fun s=>[(0,.int .i64 (s.1:Int)),(2,.pointer (some ⟨b2,0,none⟩)),(3,s.2.1),(4,.bool false)]) (fun s=>.ow (cN .i64) 3 s.2.1 s.2.2::.cl b2 [.bool false,.slice none 0 0] 132::As)
   (n.natAbs,.slice none 0 0,[]) ⟨by simp only;omega,(fun _ h=>by cases h),by simp [valQ],.inl rfl⟩ (by simp only;rw [show ((n.natAbs:Nat):Int)=n by omega];(exact Zad)) Zaa ?_
  rintro ⟨k,sv,xs⟩ ⟨hk,hxs,hval,hpow⟩
  simp only at hk hxs hval hpow
  show Tri _ _ _ _ [(0,.int .i64 (k:Int)),(2,_),(3,sv),(4,_)] (.ow (cN .i64) 3 sv xs::_) _
  have hxl:=hlen xs hpow
  by_cases hk0:k=0
  ·subst hk0
   rw [Nat.mul_zero,Nat.add_zero] at hval
   repeat' first|refine Kz ?_|intro _
   refine TL.call rfl rfl rfl (CallsS.ents Ents.freeze (Zfg (z:=n) hxs (by omega) hval.symm (by rw [Bool.eq_iff_iff];simp only [Bool.false_and,decide_eq_true_eq,Bool.false_eq_true,iff_false];omega))) ?_
   rintro _ _ ⟨p,cap,rfl,rfl⟩
   repeat' first|refine Kz ?_|intro _
   (refine Zac ?_)
   exact ⟨_,⟨p,cap,rfl,rfl⟩,Zaa⟩
  ·repeat' first|refine Kz ?_|intro _
   rename_i v9
   exact Post.round (k / 10000,v9,xs++[k % 10000]) ⟨by simp only;omega,Z96 hxs (by omega),Zqo hval rfl,.inr (by simpa using Zvq hk0 hval)⟩ (by simp only;omega) Zad (Ents.refl _)
theorem Zu1 {s:List UInt8} {z:Int} (h:readW s=some z):∃ (f:Nat) (l:List UInt8),f≤1∧l=s.drop f∧0 < l.length∧l.length≤600∧(∀ c∈l,isDig c=true)∧(f=1→s[0]?=some 45∧z=-(numOf l:Int)∧0 < numOf l)∧(f=0→s[0]?≠some 45∧z=(numOf l:Int)):=by
 unfold readW at h
 split at h
 ·rename_i hp
  split at h
  ·rename_i hc
   obtain ⟨h1,h2,h3,h4⟩:=hc
   cases h
   refine ⟨1,s.drop 1,by omega,rfl,h1,h2,h3,fun _=>⟨?_,rfl,Zfp h3 h1 h4⟩,fun h=>by omega⟩
   cases s with
   | nil=>simp at h1
   | cons c r =>
    rw [Zbe,decide_eq_true_eq] at hp
    rw [hp];rfl
  ·cases h
 ·rename_i hp
  split at h
  ·rename_i hc
   obtain ⟨h1,h2,h3,h4⟩:=hc
   cases h
   refine ⟨0,s,by omega,rfl,h1,h2,h3,fun h=>by omega,fun _=>⟨fun h5=>?_,rfl⟩⟩
   cases s with
   | nil=>simp at h1
   | cons c r =>
    rw [Zbe] at hp
    simp at h5
    exact hp (decide_eq_true h5)
  ·cases h
end Go.Proofs.YtbfgldlfciimiaaGreatDoor
namespace Go.Sx
def fromW (s:List UInt8):Nat:=if s[0]?=some 45 then 1 else 0
def RightW (s:List UInt8):Prop:=0 < (s.drop (fromW s)).length∧(s.drop (fromW s)).length≤600∧(∀ c∈s.drop (fromW s),isDig c=true)∧((s.drop (fromW s))[0]?=some 48→s.length=1)
theorem Zor (s:List UInt8):(readW s).isSome=true↔RightW s:=by
 have hp:Lib.hasPrefix s [45]=decide (s[0]?=some 45):=by
  cases s with
  | nil=>rfl
  | cons c r=>rw [Zbe];simp
 unfold readW RightW fromW
 rw [hp]
 by_cases h:s[0]?=some 45
 ·simp only [h,decide_true,if_true]
  split
  ·rename_i hc
   simp only [Option.isSome_some,true_iff]
   exact ⟨hc.1,hc.2.1,hc.2.2.1,fun h5=>absurd h5 hc.2.2.2⟩
  ·rename_i hc
   simp only [Option.isSome_none,Bool.false_eq_true,false_iff]
   rintro ⟨h1,h2,h3,h4⟩
   exact hc ⟨h1,h2,h3,fun h5=>by have:=h4 h5;simp at h1;omega⟩
 ·simp only [h,decide_false,Bool.false_eq_true,if_false,List.drop_zero]
  split
  ·rename_i hc;simpa using hc
  ·rename_i hc;simpa using hc
end Go.Sx
namespace Go.Proofs.YtbfgldlfciimiaaGreatDoor
open Go Go.Sx
variable {w0:World} {As:List Ent}
theorem Zxx {s:List UInt8} {z:Int} (h:readW s=some z):CallsS Tryz.prog w0 127 [.string ⟨s.toArray⟩] As (PlainR As z):=by
 obtain ⟨f,l,hf1,rfl,hl0,hl6,hd,hneg,hpos⟩:=Zu1 h
 have hsl:s.length≤601:=by simp at hl6;omega
 have hs0:0 < s.length:=by simp at hl0;omega
 obtain ⟨c0,hc0⟩:∃ c,s[0]?=some c:=⟨_,List.getElem?_eq_getElem hs0⟩
 refine Zab Tryz.func127 rfl Tryz.ntmps127 rfl ?_
 repeat' first|refine Kz ?_|intro _
 rename_i b2
 refine Tri.mid (fun e' As'=>e'=[(0,.string ⟨s.toArray⟩),(2,.pointer (some ⟨b2,0,none⟩)),(3,.int .i64 (f:Int))]∧As'=.cl b2 [.bool false,.slice none 0 0] 132::As) ?_ ?_
 ·rcases (by omega:f=0∨f=1) with rfl|rfl
  ·have h45:¬ (c0.toNat:Int)=45:=fun h=>(hpos rfl).1 (by rw [hc0];congr 1;apply UInt8.toNat_inj.1;show c0.toNat=45;omega)
   refine Zjr rfl h45 ?_
   repeat' first|refine Kz ?_|intro _
   exact Post.cut _ _ ⟨rfl,rfl⟩ Zad Zaa
  ·have h45:(c0.toNat:Int)=45:=by
    have:=(hneg rfl).1
    rw [hc0] at this
    cases this
    rfl
   refine Zjq rfl h45 ?_
   repeat' first|refine Kz ?_|intro _
   exact Post.cut _ _ ⟨rfl,rfl⟩ Zad Zaa
 rintro _ _ ⟨rfl,rfl⟩
 generalize hl:s.drop f=l at hl0 hl6 hd hneg hpos
 have hget:∀ i:Nat,s[f+i]?=l[i]?:=fun i=>by rw [← hl,List.getElem?_drop]
 have hll:s.length=f+l.length:=by rw [← hl,List.length_drop];have:=congrArg List.length hl;simp at this;omega
 repeat' first|refine Kz ?_|intro _
 refine Tri.ents (Za3 (T:=3) (cN .i64)) ?_
 refine Tri.loop (ι:=Int × Value × List Nat × Nat) (fun s=>((0 < s.2.2.2∧s.1=(f:Int)+s.2.2.2∧s.2.2.1++grpQ (l.take s.2.2.2)=grpQ l)∨(s.2.2.2=0∧s.1≤f∧-10≤s.1∧s.2.2.1=grpQ l))∧s.2.2.2≤l.length∧s.2.2.1.length+s.2.2.2≤l.length) (fun s=>s.2.2.2)
  (fun x=>[(0,.string ⟨s.toArray⟩),(2,.pointer (some ⟨b2,0,none⟩)),(3,.int .i64 (f:Int)),(4,x.2.1),(5,.int .i64 x.1)]) (fun x=>.ow (cN .i64) 3 x.2.1 x.2.2.1::.cl b2 [.bool false,.slice none 0 0] 132::As)
  ((f:Int)+l.length,.slice none 0 0,[],l.length) ⟨.inl ⟨hl0,rfl,by simp⟩,Nat.le_refl _,by simp⟩ (by rw [show ((f:Int)+l.length)=(s.length:Int) by omega];(exact Zad)) Zaa ?_
 rintro ⟨e,sv,g,en⟩ ⟨hst,hen,hgl⟩
 simp only at hst hen hgl
 show Tri _ _ _ _ [(0,_),(2,_),(3,_),(4,sv),(5,.int .i64 e)] (.ow (cN .i64) 3 sv g::_) _
 obtain ⟨k1,k2⟩:=Z3o l.length (Nat.le_refl _) hd
 rcases hst with ⟨hen0,rfl,hg⟩|⟨rfl,hef,hem,rfl⟩
 ·obtain ⟨st,hst⟩:∃ st:Nat,st=en - 4:=⟨_,rfl⟩
  have hmx:(if ((f:Int)+en - 4) < (f:Int) then (f:Int) else (f:Int)+en - 4)=((f+st:Nat):Int):=by split<;>omega
  repeat' first|refine Kz ?_|intro _
  rw [hmx]
  refine Tri.loop (ι:=Nat) (fun i=>st≤i∧i≤en) (fun i=>en - i)
   (fun i=>[(0,.string ⟨s.toArray⟩),(2,.pointer (some ⟨b2,0,none⟩)),(3,.int .i64 (f:Int)),(4,sv),(5,.int .i64 ((f:Int)+en)),(6,.int .i64 (numOf ((l.take i).drop st):Nat)),(7,.int .i64 ((f+i:Nat):Int))]) (fun _=>.ow (cN .i64) 3 sv g::.cl b2 [.bool false,.slice none 0 0] 132::As) st ⟨Nat.le_refl _,by omega⟩ ?_ Zaa ?_
  ·rw [show numOf ((l.take st).drop st)=0 by rw [List.drop_eq_nil_of_le (by simp;omega)];rfl]
   (exact Zad)
  ·intro i ⟨hi1,hi2⟩
   repeat' first|refine Kz ?_|intro _
   (refine Kx (fun hc=>?_) fun hc=>?_)
   ·obtain ⟨c,hc'⟩:∃ c,l[i]?=some c:=⟨_,List.getElem?_eq_getElem (by omega)⟩
    have hsc:s[f+i]?=some c:=by rw [hget,hc']
    have hcd:=Zjg.1 (hd c (List.mem_of_getElem? hc'))
    have hi3:=(List.getElem?_eq_some_iff.1 hc').1
    have e1:(l.take (i+1)).drop st=(l.take i).drop st++[c]:=by
     rw [List.take_succ_eq_append_getElem hi3,(List.getElem?_eq_some_iff.1 hc').2,List.drop_append_of_le_length (by simp;omega)]
    have e2:=Zdt (l:=(l.take i).drop st) fun c hc=>hd c (List.mem_of_mem_take (List.mem_of_mem_drop hc))
    have e3:((l.take i).drop st).length≤4:=by simp;omega
    have e4:=Nat.pow_le_pow_right (n:=10) (by omega) e3
    repeat' first|refine Kz ?_|intro _
    refine Post.round (i+1) ⟨by omega,by omega⟩ (by omega) ?_ Zaa
    rw [show ((numOf ((l.take (i+1)).drop st):Nat):Int)=(numOf ((l.take i).drop st):Int) * 10+((c.toNat:Int) - 48) by rw [e1,Zdm,dig];omega]
    (exact Zad)
   ·have hie:i=en:=by omega
    subst hie
    repeat' first|refine Kz ?_|intro _
    rename_i v9
    by_cases h4:i≤4
    ·have hst0:st=0:=by omega
     subst hst0
     have e1:g++[numOf (l.take i)]=grpQ l:=by rw [← hg,Zvw (by simp;omega)]
     rw [List.drop_zero]
     exact Post.round ((f:Int)+i - 4,v9,g++[numOf (l.take i)],0) ⟨.inr ⟨rfl,by simp only;omega,by simp only;omega,e1⟩,by simp only;omega,by simp;omega⟩ (by simp only;omega) Zad Zaa
    ·have e2:grpQ (l.take i)=numOf ((l.take i).drop (i - 4))::grpQ (l.take (i - 4)):=by
      rw [Z3p (by simp;omega)]
      simp only [List.length_take,Nat.min_eq_left hen,List.take_take]
      rw [Nat.min_eq_left (by omega)]
     exact Post.round ((f:Int)+i - 4,v9,g++[numOf ((l.take i).drop st)],i - 4) ⟨.inl ⟨by simp only;omega,by simp only;omega,by simp only;rw [← hg,e2,hst];simp⟩,by simp only;omega,by simp;omega⟩ (by simp only;omega) Zad Zaa
 ·have hz1:z.natAbs=valQ (grpQ l):=by
   rw [k1]
   rcases (by omega:f=0∨f=1) with rfl|rfl
   ·rw [(hpos rfl).2];omega
   ·rw [(hneg rfl).2.1];omega
  have hz2:decide (z < 0)=(decide ((f:Int)=1)&&decide (valQ (grpQ l)≠0)):=by
   rw [k1,Bool.eq_iff_iff]
   simp only [Bool.and_eq_true,decide_eq_true_eq]
   rcases (by omega:f=0∨f=1) with rfl|rfl
   ·rw [(hpos rfl).2];omega
   ·have:=hneg rfl
    rw [this.2.1];omega
  repeat' first|refine Kz ?_|intro _
  refine TL.call rfl rfl rfl (CallsS.ents Ents.freeze (Zfg (z:=z) k2 (by omega) hz1 hz2)) ?_
  rintro _ _ ⟨p,cap,rfl,rfl⟩
  repeat' first|refine Kz ?_|intro _
  (refine Zac ?_)
  exact ⟨_,⟨p,cap,rfl,rfl⟩,Zaa⟩
theorem Zsm {s:List UInt8} (hs:s.length≤1000000000):CQ Tryz.prog w0 126 [.string ⟨s.toArray⟩] As (.bool (readW s).isSome):=by
 have hyes:RightW s→(readW s).isSome=true:=(Zor s).2
 have hno:¬ RightW s→(readW s).isSome=false:=fun h=>by
  rw [← Bool.not_eq_true];exact fun h1=>h ((Zor s).1 h1)
 refine Zab Tryz.func126 rfl Tryz.ntmps126 rfl ?_
 obtain ⟨f,hf⟩:∃ f,f=fromW s:=⟨_,rfl⟩
 obtain ⟨l,hl⟩:∃ l,l=s.drop f:=⟨_,rfl⟩
 have hf1:f≤1:=by rw [hf,fromW];split<;>omega
 have hget:∀ i:Nat,s[f+i]?=l[i]?:=fun i=>by rw [hl,List.getElem?_drop]
 have hll:l.length=s.length - f:=by rw [hl,List.length_drop]
 have hR:RightW s↔0 < l.length∧l.length≤600∧(∀ c∈l,isDig c=true)∧(l[0]?=some 48→s.length=1):=by
  rw [hl,hf];rfl
 have hfs:f=1→0 < s.length:=fun h=>by
  rw [hf,fromW] at h
  split at h
  ·rename_i h1
   have:=(List.getElem?_eq_some_iff.1 h1).1
   omega
  ·omega
 iterate 11 (first|((show TL _ _ _ _ (_::_) _ _ _;first|refine Ze1 ?_|refine Zey ?_|(refine Zcn ?_;intro _)|(refine Zdd ?_;first|rintro _ _ ⟨rfl,rfl⟩|rintro _ _ rfl)|refine Zbp ?_|refine Zbb ?_|refine Ze0 ?_|fail))|(refine Stp.h ?_))
 refine Tri.mid (fun e' As'=>e'=[(0,.string ⟨s.toArray⟩),(3,.int .i64 (f:Int))]∧As'=As) ?_ ?_
 ·by_cases h0:s.length=0
  ·have hf0:f=0:=by omega
   subst hf0
   repeat' first|refine Kz ?_|intro _
   exact Post.cut _ _ ⟨rfl,rfl⟩ Zad Zaa
  ·obtain ⟨c0,hc0⟩:∃ c,s[0]?=some c:=⟨_,List.getElem?_eq_getElem (by omega)⟩
   by_cases h45:(c0.toNat:Int)=45
   ·have hf0:f=1:=by
     rw [hf,fromW,if_pos]
     rw [hc0];congr 1;apply UInt8.toNat_inj.1;show c0.toNat=45;omega
    subst hf0
    repeat' first|refine Kz ?_|intro _
    exact Post.cut _ _ ⟨rfl,rfl⟩ Zad Zaa
   ·have hf0:f=0:=by
     rw [hf,fromW,if_neg]
     rw [hc0];intro h;cases h;exact h45 rfl
    subst hf0
    repeat' first|refine Kz ?_|intro _
    exact Post.cut _ _ ⟨rfl,rfl⟩ Zad Zaa
 rintro _ As ⟨rfl,rfl⟩
 by_cases hb:l.length < 1∨600 < l.length
 ·have hno':=hno (fun h=>by have:=hR.1 h;omega)
  rw [hno']
  have hdec:(s.length:Int) - f < 1∨600 < (s.length:Int) - f:=by omega
  (repeat' (first|((show TL _ _ _ _ (_::_) _ _ _;first|refine Ze1 ?_|refine Zey ?_|(refine Zcn ?_;intro _)|(refine Zdd ?_;first|rintro _ _ ⟨rfl,rfl⟩|rintro _ _ rfl)|refine Zbp ?_|refine Zbb ?_|refine Ze0 ?_|fail))|(refine Stp.h ?_)|((show Tri _ _ _ (.cond _ _ _) _ _ _;first|refine Zbn ?_|refine Zbo ?_|refine Zat ?_|refine Zau ?_|refine Zap ?_|refine Zaq ?_|fail))|(first|refine Zbg rfl rfl (fun hgs=>?_) (fun hgs=>?_)|refine Za7 rfl rfl (fun hgs=>?_) (fun hgs=>?_)|refine Zbf rfl rfl rfl (fun hgs=>?_) (fun hgs=>?_)|refine Za6 rfl rfl rfl (fun hgs=>?_) (fun hgs=>?_))|(refine Kx (fun hc=>?_) fun hc=>?_)))
  all_goals
   exact Kv
 repeat' first|refine Kz ?_|intro _
 refine Tri.loop (ι:=Nat) (fun k=>k≤l.length∧∀ (j:Nat) (c:UInt8),j < k→l[j]?=some c→isDig c=true) (fun k=>l.length - k)
  (fun k=>[(0,.string ⟨s.toArray⟩),(3,.int .i64 (f:Int)),(5,.int .i64 ((f+k:Nat):Int))]) (fun _=>As) 0 ⟨by omega,fun _ _ h=>by omega⟩ Zad Zaa ?_
 intro k ⟨hk,hkd⟩
 repeat' first|refine Kz ?_|intro _
 (refine Kx (fun hc=>?_) fun hc=>?_)
 ·obtain ⟨c,hc'⟩:∃ c,l[k]?=some c:=⟨_,List.getElem?_eq_getElem (by omega)⟩
  have hsc:s[f+k]?=some c:=by rw [hget,hc']
  by_cases hcd:48≤c.toNat∧c.toNat≤57
  ·repeat' first|refine Kz ?_|intro _
   refine Post.round (k+1) ⟨by omega,fun j y hj hy=>?_⟩ (by omega) Zad Zaa
   rcases Nat.lt_or_ge j k with h1|h1
   ·exact hkd j y h1 hy
   ·rw [show j=k from (by omega),hc'] at hy;cases hy;rw [Zjg];exact hcd
  ·have hno':=hno (fun h=>by
    have:=Zjg.1 ((hR.1 h).2.2.1 c (List.mem_of_getElem? hc'))
    exact hcd this)
   rw [hno']
   (repeat' (first|((show TL _ _ _ _ (_::_) _ _ _;first|refine Ze1 ?_|refine Zey ?_|(refine Zcn ?_;intro _)|(refine Zdd ?_;first|rintro _ _ ⟨rfl,rfl⟩|rintro _ _ rfl)|refine Zbp ?_|refine Zbb ?_|refine Ze0 ?_|fail))|(refine Stp.h ?_)|((show Tri _ _ _ (.cond _ _ _) _ _ _;first|refine Zbn ?_|refine Zbo ?_|refine Zat ?_|refine Zau ?_|refine Zap ?_|refine Zaq ?_|fail))|(first|refine Zbg rfl rfl (fun hgs=>?_) (fun hgs=>?_)|refine Za7 rfl rfl (fun hgs=>?_) (fun hgs=>?_)|refine Zbf rfl rfl rfl (fun hgs=>?_) (fun hgs=>?_)|refine Za6 rfl rfl rfl (fun hgs=>?_) (fun hgs=>?_))|(refine Kx (fun hc=>?_) fun hc=>?_)))
   all_goals
    exact Kv
 ·have hall:∀ c∈l,isDig c=true:=fun c hc=>by
   obtain ⟨j,hj⟩:=List.mem_iff_getElem?.1 hc
   exact hkd j c (by have:=(List.getElem?_eq_some_iff.1 hj).1;omega) hj
  obtain ⟨c0,hc0⟩:∃ c,l[0]?=some c:=⟨_,List.getElem?_eq_getElem (by omega)⟩
  have hsc:s[f]?=some c0:=by have:=hget 0;rw [Nat.add_zero] at this;rw [this,hc0]
  by_cases h48:(c0.toNat:Int)=48
  ·have h5:l[0]?=some 48:=by rw [hc0];congr 1;apply UInt8.toNat_inj.1;show c0.toNat=48;omega
   by_cases hl1:s.length=1
   ·rw [hyes (hR.2 ⟨by omega,by omega,hall,fun _=>hl1⟩)]
    repeat' first|refine Kz ?_|intro _
    (refine Zac ?_)
    exact ⟨_,⟨by simp [hl1],rfl⟩,Zaa⟩
   ·rw [hno (fun h=>hl1 ((hR.1 h).2.2.2 h5))]
    repeat' first|refine Kz ?_|intro _
    (refine Zac ?_)
    exact ⟨_,⟨by rw [decide_eq_false (by omega)],rfl⟩,Zaa⟩
  ·rw [hyes (hR.2 ⟨by omega,by omega,hall,fun h=>by rw [hc0] at h;cases h;exact absurd rfl h48⟩)]
   repeat' first|refine Kz ?_|intro _
   (refine Zac ?_)
   exact ⟨_,⟨by first|rfl|simp [h48],rfl⟩,Zaa⟩
end Go.Proofs.YtbfgldlfciimiaaGreatDoor
