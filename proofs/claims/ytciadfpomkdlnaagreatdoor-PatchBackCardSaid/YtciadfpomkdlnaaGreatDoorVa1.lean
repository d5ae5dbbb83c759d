/- Walks: the reference of the chapter on whole numbers: lists of digits. -/
import Derived.Test.YtciadfpomkdlnaaGreatDoorWa3
import Derived.Test.YtciadfpomkdlnaaGreatDoorPl
import Derived.Test.YtciadfpomkdlnaaGreatDoorSxB
import Derived.Laws.IdiomStrings
set_option maxHeartbeats 1000000
namespace Go.Sx
open Go
section
variable {P:Program} {N:Ctx} {w0:World} {e:Env} {As rest:List Ent} {ty:TypeId} {x:Operand}
theorem Zut {t t' el T:TypeId} {b n cap:Nat} {cs:List Value} (l:List UInt8) [ht:UL P t (.slice el)] [he:UL P el (.int .u8)] [hd:UL P t' .string] (hx:ev e x=some (.slice (some ⟨b,0,none⟩) n cap)) [TakeC As b cs T rest] (hl:cs=l.map fun c=>Value.int .u8 (c.toNat:Int)) (hn:n=l.length) :
  ExF P N w0 (.convert t t' x) ty e As (.string ⟨l.toArray⟩):=by
 subst hn
 unfold ExF
 intro a w ha hs d pos af g
 have hw:=Zdt (b:=b) (l:=cs) (T:=T) (rest:=rest) hs
 have:=run_convert_bytes_back (P:=P) w t t' el (some ⟨b,0,none⟩).get! cap l ht.h he.h hd.h (fun j hj=>by
  show w.cell? ((⟨b,0,none⟩:Addr).add j)=_
  rw [Zah]
  simp only [World.cell?,hw,hl]
  simp [hj])
 simp only [execOp,ha.eval hx]
 simp only [Option.get!] at this
 simp [this]
end
end Go.Sx
namespace Go.Proofs.YtciadfpomkdlnaaGreatDoor
open Go Go.Sx
variable {w0:World} {As:List Ent}
instance:ElC Tryz.prog 3 Nat (cN .i64) 0 8:=⟨by obtain ⟨i,h1,h2,h3,h4⟩:=(inferInstance:TI Tryz.prog 3 _ _ _).info;exact ⟨i,_,h1,h2,h3,h4,rfl⟩,by decide⟩
def QudR (As:List Ent) (n:Nat) (v:Value) (Bs:List Ent):Prop:=∃ p cap,v=.slice p (qud n).length cap∧Bs=.ft (rd (cN .i64) v (qud n))::As
theorem Z2b {f:FuncId} {args:List Value} {n:Nat} (h:CallsS Tryz.prog w0 f args As fun v Bs=>Bs=.ft (rd (cN .i64) v (qud n))::As):CallsS Tryz.prog w0 f args As (QudR As n) :=
 (Zf3 (cd:=cN .i64) (xs:=qud n) h fun v Bs h=>by rw [h];infer_instance).mono fun _ _ ⟨p,cap,h1,h2⟩=>⟨p,cap,h1,h2⟩
theorem Zio {v:Value} {xs:List Nat} [hf:FtIn As v Nat (cN .i64) xs] (hs:∀ d∈xs,d < 10000) (hl:xs.length≤1000000000):CallsS Tryz.prog w0 211 [v] As (QudR As (valQ xs)):=by
 refine Z2b ?_
 rw [← Zjl hs]
 refine Zab Tryz.func211 rfl Tryz.ntmps211 rfl ?_
 repeat' first|refine Kz ?_|intro _
 refine Tri.loop (ι:=Nat) (fun n=>n≤xs.length∧trimL (xs.take n)=trimL xs) (fun n=>n)
  (fun n=>[(0,v),(3,.int .i64 (n:Int))]) (fun _=>As) xs.length ⟨Nat.le_refl _,by rw [List.take_length]⟩ Zad Zaa ?_
 rintro n ⟨hn,ht⟩
 cases n with
 | zero =>
  repeat' first|refine Kz ?_|intro _
  (refine Zac ?_)
  refine ⟨_,rfl,?_⟩
  rw [← ht,show trimL (xs.take 0)=(xs.drop 0).take (0 - 0) from rfl]
  (exact Zaa)
 | succ n =>
  obtain ⟨d,hd⟩:∃ d,xs[n]?=some d:=⟨_,List.getElem?_eq_getElem (by omega)⟩
  have e1:((n+1:Nat):Int) - 1=(n:Int):=by omega
  have et:xs.take (n+1)=xs.take n++[d]:=by rw [List.take_add_one,hd];rfl
  repeat' first|refine Kz ?_|intro _
  (refine Kx (fun hc=>?_) fun hc=>?_)
  ·have hd0:d=0:=by omega
   subst hd0
   repeat' first|refine Kz ?_|intro _
   exact Post.round n ⟨by omega,by rw [← ht,et,Zfk]⟩ (by omega) Zad Zaa
  ·repeat' first|refine Kz ?_|intro _
   (refine Zac ?_)
   refine ⟨_,rfl,?_⟩
   rw [← ht,et,Zdc (by omega),← et,show xs.take (n+1)=(xs.drop 0).take (n+1 - 0) by simp]
   (exact Zaa)
def PlainR (As:List Ent) (z:Int) (u:Value) (Bs:List Ent):Prop:=∃ p cap,u=.agg #[.bool (decide (z < 0)),.slice p (qud z.natAbs).length cap]∧Bs=.ft (rd (cN .i64) (.slice p (qud z.natAbs).length cap) (qud z.natAbs))::As
theorem Zdp {b:Bool} {v:Value} {xs:List Nat} [hf:FtIn As v Nat (cN .i64) xs] (hs:∀ d∈xs,d < 10000) (hl:xs.length≤1000000000) {z:Int} (h1:z.natAbs=valQ xs) (h2:decide (z < 0)=(b&&decide (valQ xs≠0))) :
  CallsS Tryz.prog w0 155 [.bool b,v] As (PlainR As z):=by
 refine Zab Tryz.func155 rfl Tryz.ntmps155 rfl ?_
 unfold PlainR
 rw [h1,h2]
 have h0:(0 < ((qud (valQ xs)).length:Int))↔valQ xs≠0:=by
  have:=Zzj (n:=valQ xs)
  constructor
  ·intro h h'
   have:=this.2 h'
   omega
  ·intro h
   have h':(qud (valQ xs)).length≠0:=fun h'=>h (this.1 h')
   omega
 repeat' first|refine Kz ?_|intro _
 refine TL.call rfl rfl rfl (Zio hs hl) ?_
 rintro _ _ ⟨p,cap,rfl,rfl⟩
 cases b
 ·repeat' first|refine Kz ?_|intro _
  (refine Zac ?_)
  exact ⟨_,⟨_,_,rfl,rfl⟩,Zaa⟩
 ·repeat' first|refine Kz ?_|intro _
  (refine Zac ?_)
  refine ⟨_,⟨p,cap,?_,rfl⟩,Zaa⟩
  simp only [Bool.true_and,h0]
end Go.Proofs.YtciadfpomkdlnaaGreatDoor
namespace Go.Sx
theorem pad4 (n:Nat):pad 4 n=[UInt8.ofNat (48+n / 1000 % 10),UInt8.ofNat (48+n / 100 % 10),UInt8.ofNat (48+n / 10 % 10),UInt8.ofNat (48+n % 10)]:=by
 simp [pad,Nat.div_div_eq_div_mul]
theorem Z3s:textI 0=[48]:=by
 rw [Zb1,if_neg (by omega),show (0:Int).natAbs=0 from rfl,Zbp (by omega)];rfl
theorem Zej {k:Nat} (h:k < 10):((UInt8.ofNat (48+k)).toNat:Int)=48+k:=by rw [(Zin h).2.2];omega
end Go.Sx
namespace Go.Proofs.YtciadfpomkdlnaaGreatDoor
open Go Go.Sx
variable {w0:World} {As:List Ent}
theorem Zz2 {n:Nat} (hn:n < 10000):CQ Tryz.prog w0 158 [.int .i64 (n:Int)] As (.string ⟨(pad 4 n).toArray⟩):=by
 refine Zab Tryz.func158 rfl Tryz.ntmps158 rfl ?_
 repeat' first|refine Kz ?_|intro _
 refine TL.f rfl rfl (Zut (pad 4 n) rfl ?_ (Zjx 4 n).symm) ?_
 ·rw [pad4]
  simp only [List.map_cons,List.map_nil]
  rw [Zej (by omega),Zej (by omega),Zej (by omega),Zej (by omega)]
  rw [show n / 1000 % 10=n / 1000 by omega]
  rfl
 repeat' first|refine Kz ?_|intro _
 exact Kv
theorem Zyx {v:Value} {z:Int} [hf:RdIn As v Nat (cN .i64) (qud z.natAbs)] (ha:(qud z.natAbs).length≤100000000) :
  CQ Tryz.prog w0 79 [.agg #[.bool (decide (z < 0)),v]] As (.string ⟨(textI z).toArray⟩):=by
 refine Zbh v fun hv=>?_
 refine Zab Tryz.func79 rfl Tryz.ntmps79 rfl ?_
 have hsm:=Zar z.natAbs
 repeat' first|refine Kz ?_|intro _
 rename_i b1
 refine Tri.loop (ι:=Nat) (fun j=>j≤(qud z.natAbs).length) (fun j=>j)
  (fun j=>[(1,.pointer (some ⟨b1,0,none⟩)),(3,.string ⟨(fullQ ((qud z.natAbs).drop j)).toArray⟩),(4,.int .i64 ((j:Int) - 1))]) (fun _=>.cl b1 [.bool (decide (z < 0)),v] 115::As) (qud z.natAbs).length (Nat.le_refl _) (by rw [List.drop_length];(exact Zad)) Zaa ?_
 intro j hj
 have hfl:(fullQ ((qud z.natAbs).drop j)).length≤400000000:=by rw [Zoi,List.length_drop];omega
 cases j with
 | succ j =>
  rw [show ((j+1:Nat):Int) - 1=(j:Int) by omega]
  obtain ⟨d,hd⟩:∃ d,(qud z.natAbs)[j]?=some d:=⟨_,List.getElem?_eq_getElem (by omega)⟩
  have hd4:=hsm d (List.mem_of_getElem? hd)
  have hp4:=Zjx 4 d
  repeat' first|refine Kz ?_|intro _
  refine Kt rfl (Zz2 hd4) ?_
  repeat' first|refine Kz ?_|intro _
  refine Post.round j (by omega) (by omega) ?_ Zaa
  have e:(qud z.natAbs).drop j=d::(qud z.natAbs).drop (j+1):=by
   rw [List.drop_eq_getElem_cons (by omega)]
   rw [List.getElem?_eq_getElem (by omega)] at hd
   rw [Option.some.inj hd]
  rw [e,Zfw]
  (exact Zad)
 | zero =>
  rw [show ((0:Nat):Int) - 1=-1 from rfl,List.drop_zero]
  have hfd:=Zoj (qud z.natAbs)
  have hfn:=Zoh _ hsm
  rw [Zao] at hfn
  rw [List.drop_zero] at hfl
  generalize fullQ (qud z.natAbs)=l at hfl hfd hfn ⊢
  repeat' first|refine Kz ?_|intro _
  refine Tri.loop (ι:=Nat) (fun k=>k≤l.length∧∀ (j:Nat) (c:UInt8),j < k→l[j]?=some c→c=48) (fun k=>l.length - k)
   (fun k=>[(1,.pointer (some ⟨b1,0,none⟩)),(3,.string ⟨l.toArray⟩),(5,.int .i64 (k:Int))]) (fun _=>.cl b1 [.bool (decide (z < 0)),v] 115::As) 0 ⟨Nat.zero_le _,fun _ _ h=>absurd h (Nat.not_lt_zero _)⟩ Zad Zaa ?_
  intro k ⟨hk,hz⟩
  by_cases hkl:k < l.length
  ·obtain ⟨c,hc⟩:∃ c,l[k]?=some c:=⟨_,List.getElem?_eq_getElem hkl⟩
   repeat' first|refine Kz ?_|intro _
   refine Zo1 rfl (fun hcc=>?_) (fun hcc=>?_)
   ·have h48:c=48:=by apply UInt8.toNat_inj.1;show c.toNat=48;omega
    repeat' first|refine Kz ?_|intro _
    refine Post.round (k+1) ⟨by omega,fun j x hj hx=>?_⟩ (by omega) Zad Zaa
    rcases Nat.lt_or_ge j k with h1|h1
    ·exact hz j x h1 hx
    ·rw [show j=k by omega,hc] at hx;cases hx;exact h48
   ·have hn:l[k]?≠some 48:=fun h=>by
     rw [hc] at h
     cases h
     exact hcc rfl
    have hst:=Znv hfd hk hz hn
    rw [hfn] at hst
    repeat' first|refine Kz ?_|intro _
    rw [show (l.drop k).take (l.length - k)=l.drop k from List.take_of_length_le (by simp),hst]
    by_cases h0:z.natAbs=0
    ·rw [if_pos h0]
     have hz0:z=0:=by omega
     subst hz0
     repeat' first|refine Kz ?_|intro _
     (refine Zac ?_)
     exact ⟨_,⟨by rw [Z3s],rfl⟩,Zaa⟩
    ·rw [if_neg h0]
     obtain ⟨c0,r0,hcr,_⟩:=Zhn h0
     have hne:Lib.decDigits z.natAbs≠[]:=by rw [hcr];simp
     have hdl:(Lib.decDigits z.natAbs).length≤400000000:=by
      have:=congrArg List.length hst
      rw [if_neg h0,List.length_drop] at this
      omega
     by_cases hneg:z < 0
     ·rw [decide_eq_true hneg]
      repeat' first|refine Kz ?_|intro _
      (refine Zac ?_)
      exact ⟨_,⟨by rw [Zb1,if_pos hneg];rfl,rfl⟩,Zaa⟩
     ·rw [decide_eq_false hneg]
      repeat' first|refine Kz ?_|intro _
      (refine Zac ?_)
      exact ⟨_,⟨by rw [Zb1,if_neg hneg],rfl⟩,Zaa⟩
  ·have hst:=Znv hfd hk hz (by rw [List.getElem?_eq_none (by omega)];simp)
   rw [hfn] at hst
   repeat' first|refine Kz ?_|intro _
   rw [show (l.drop k).take (l.length - k)=l.drop k from List.take_of_length_le (by simp),hst]
   by_cases h0:z.natAbs=0
   ·rw [if_pos h0]
    have hz0:z=0:=by omega
    subst hz0
    repeat' first|refine Kz ?_|intro _
    (refine Zac ?_)
    exact ⟨_,⟨by rw [Z3s],rfl⟩,Zaa⟩
   ·rw [if_neg h0]
    obtain ⟨c0,r0,hcr,_⟩:=Zhn h0
    have hne:Lib.decDigits z.natAbs≠[]:=by rw [hcr];simp
    have hdl:(Lib.decDigits z.natAbs).length≤400000000:=by
     have:=congrArg List.length hst
     rw [if_neg h0,List.length_drop] at this
     omega
    by_cases hneg:z < 0
    ·rw [decide_eq_true hneg]
     repeat' first|refine Kz ?_|intro _
     (refine Zac ?_)
     exact ⟨_,⟨by rw [Zb1,if_pos hneg];rfl,rfl⟩,Zaa⟩
    ·rw [decide_eq_false hneg]
     repeat' first|refine Kz ?_|intro _
     (refine Zac ?_)
     exact ⟨_,⟨by rw [Zb1,if_neg hneg],rfl⟩,Zaa⟩
end Go.Proofs.YtciadfpomkdlnaaGreatDoor
namespace Go.Sx
theorem Zjn (z:Int):(textI z).length=Lib.nDigits z.natAbs+(if z < 0 then 1 else 0):=by
 rw [Zb1]
 split<;>simp [Zat]
theorem Zqd {n:Nat}:Lib.nDigits n≤4 * (qud n).length+1:=by
 have h1:=Za5 n
 rw [show (10000:Nat)=10 ^ 4 from rfl,← Nat.pow_mul] at h1
 exact Zbf (Nat.lt_of_lt_of_le h1 (Nat.pow_le_pow_right (by omega) (by omega)))
end Go.Sx
namespace Go.Proofs.YtciadfpomkdlnaaGreatDoor
open Go Go.Sx
variable {w0:World} {As:List Ent}
theorem Zmu {v:Value} {z:Int} [hf:RdIn As v Nat (cN .i64) (qud z.natAbs)] (ha:(qud z.natAbs).length≤100000000) :
  CQ Tryz.prog w0 78 [.agg #[.bool (decide (z < 0)),v]] As (.tuple #[.string ⟨(outW z).1.toArray⟩,.int .i64 (outW z).2]):=by
 refine Zbh v fun hv=>?_
 have htl:=Zjn z
 have hnq:=Zqd (n:=z.natAbs)
 refine Zab Tryz.func78 rfl Tryz.ntmps78 rfl ?_
 repeat' first|refine Kz ?_|intro _
 refine Kt rfl (Zyx ha) ?_
 by_cases hn:z < 0
 ·rw [if_pos hn] at htl
  rw [decide_eq_true hn]
  repeat' first|refine Kz ?_|intro _
  (refine Kx (fun hc=>?_) fun hc=>?_)
  ·repeat' first|refine Kz ?_|intro _
   (refine Zac ?_)
   exact ⟨_,⟨by rw [outW,if_pos (by omega)],rfl⟩,Zaa⟩
  ·repeat' first|refine Kz ?_|intro _
   (refine Zac ?_)
   exact ⟨_,⟨by rw [outW,if_neg (by omega)],rfl⟩,Zaa⟩
 ·rw [if_neg hn] at htl
  rw [decide_eq_false hn]
  repeat' first|refine Kz ?_|intro _
  (refine Kx (fun hc=>?_) fun hc=>?_)
  ·repeat' first|refine Kz ?_|intro _
   (refine Zac ?_)
   exact ⟨_,⟨by rw [outW,if_pos (by omega)],rfl⟩,Zaa⟩
  ·repeat' first|refine Kz ?_|intro _
   (refine Zac ?_)
   exact ⟨_,⟨by rw [outW,if_neg (by omega)],rfl⟩,Zaa⟩
theorem Z4c (k:Nat):(-(k:Int)).tmod 10000=-((k % 10000:Nat):Int):=by
 rw [Int.neg_tmod,Int.tmod_eq_emod_of_nonneg (by omega)];omega
theorem Z1e (k:Nat):(-(k:Int)).tdiv 10000=-((k / 10000:Nat):Int):=by
 rw [Int.neg_tdiv,Int.tdiv_eq_ediv_of_nonneg (by omega)];omega
theorem Zm2 {k X n:Nat} {xs:List Nat} (hval:valQ xs+10000 ^ xs.length * k=n) (hX:X=k % 10000):valQ (xs++[X])+10000 ^ (xs++[X]).length * (k / 10000)=n:=by
 subst hX
 rw [Zbx,List.length_append,List.length_cons,List.length_nil,Nat.zero_add,Nat.pow_succ]
 simp only [valQ,Nat.mul_zero,Nat.add_zero]
 have h1:10000 ^ xs.length * (k % 10000)+10000 ^ xs.length * 10000 * (k / 10000)=10000 ^ xs.length * k:=by
  rw [Nat.mul_assoc,← Nat.mul_add];congr 1;omega
 omega
theorem Z11 {xs:List Nat} {g:Nat} (h:∀ x∈xs,x < 10000) (hg:g < 10000):∀ x∈xs++[g],x < 10000:=fun x hx=>by
 rcases List.mem_append.1 hx with hx|hx
 ·exact h x hx
 ·rw [List.mem_singleton.1 hx];exact hg
theorem Zql {k n:Nat} {xs:List Nat} (hk:k≠0) (hval:valQ xs+10000 ^ xs.length * k=n):10000 ^ xs.length≤n:=by
 have:=Nat.mul_le_mul_left (10000 ^ xs.length) (show 1≤k by omega)
 omega
theorem Zbi {n:Int} (h0:-9223372036854775808≤n) (h1:n≤9223372036854775807):CallsS Tryz.prog w0 76 [.int .i64 n] As (PlainR As n):=by
 refine Zab Tryz.func76 rfl Tryz.ntmps76 rfl ?_
 repeat' first|refine Kz ?_|intro _
 rename_i b2
 refine Tri.ents (Zav (T:=3) (cN .i64)) ?_
 have hlen:∀ xs:List Nat,(xs.length=0∨10000 ^ (xs.length - 1)≤n.natAbs)→xs.length≤5:=fun xs h=>by
  rcases h with h|h
  ·omega
  ·rcases Nat.lt_or_ge xs.length 6 with h2|h2
   ·omega
   ·have:=Nat.pow_le_pow_right (n:=10000) (by omega) (show 5≤xs.length - 1 by omega)
    omega
 by_cases hn:n < 0
 ·rw [decide_eq_true hn]
  refine Tri.loop (ι:=Nat × Value × List Nat) (fun s=>s.1≤9223372036854775808∧(∀ x∈s.2.2,x < 10000)∧valQ s.2.2+10000 ^ s.2.2.length * s.1=n.natAbs∧(s.2.2.length=0∨10000 ^ (s.2.2.length - 1)≤n.natAbs)) (fun s=>s.1)
   (fun s=>[(0,.int .i64 (-(s.1:Int))),(2,.pointer (some ⟨b2,0,none⟩)),(3,s.2.1),(4,.bool true)]) (fun s=>.ow (cN .i64) 3 s.2.1 s.2.2::.cl b2 [.bool false,.slice none 0 0] 115::As)
   (n.natAbs,.slice none 0 0,[]) ⟨by simp only;omega,(fun _ h=>by cases h),by simp [valQ],.inl rfl⟩ (by simp only;rw [show -((n.natAbs:Nat):Int)=n by omega];(exact Zad)) Zaa ?_
  rintro ⟨k,sv,xs⟩ ⟨hk,hxs,hval,hpow⟩
  simp only at hk hxs hval hpow
  show Tri _ _ _ _ [(0,.int .i64 (-(k:Int))),(2,_),(3,sv),(4,_)] (.ow (cN .i64) 3 sv xs::_) _
  have hxl:=hlen xs hpow
  by_cases hk0:k=0
  ·subst hk0
   rw [Nat.mul_zero,Nat.add_zero] at hval
   repeat' first|refine Kz ?_|intro _
   refine TL.call rfl rfl rfl (CallsS.ents Ents.freeze (Zdp (z:=n) hxs (by omega) hval.symm (by rw [Bool.eq_iff_iff];simp only [Bool.true_and,decide_eq_true_eq];omega))) ?_
   rintro _ _ ⟨p,cap,rfl,rfl⟩
   repeat' first|refine Kz ?_|intro _
   (refine Zac ?_)
   exact ⟨_,⟨p,cap,rfl,rfl⟩,Zaa⟩
  ·repeat' first|refine Kz ?_|intro _
   rw [Z4c]
   by_cases hg:k % 10000=0
   ·have e0:-((k % 10000:Nat):Int)=((k % 10000:Nat):Int):=by omega
    repeat' first|refine Kz ?_|intro _
    rw [e0]
    repeat' first|refine Kz ?_|intro _
    rename_i v9
    refine TL.f rfl rfl (ExF.quo rfl rfl (by decide)) ?_
    rw [Z1e,Zbr (k:=.i64) ⟨by omega,by omega⟩]
    repeat' first|refine Kz ?_|intro _
    exact Post.round (k / 10000,v9,xs++[k % 10000]) ⟨by simp only;omega,Z11 hxs (by omega),Zm2 hval rfl,.inr (by simpa using Zql hk0 hval)⟩ (by simp only;omega) Zad Zaa
   ·repeat' first|refine Kz ?_|intro _
    rw [Int.neg_neg]
    repeat' first|refine Kz ?_|intro _
    rename_i v9
    refine TL.f rfl rfl (ExF.quo rfl rfl (by decide)) ?_
    rw [Z1e,Zbr (k:=.i64) ⟨by omega,by omega⟩]
    repeat' first|refine Kz ?_|intro _
    exact Post.round (k / 10000,v9,xs++[k % 10000]) ⟨by simp only;omega,Z11 hxs (by omega),Zm2 hval rfl,.inr (by simpa using Zql hk0 hval)⟩ (by simp only;omega) Zad Zaa
 ·rw [decide_eq_false hn]
  refine Tri.loop (ι:=Nat × Value × List Nat) (fun s=>s.1≤9223372036854775807∧(∀ x∈s.2.2,x < 10000)∧valQ s.2.2+10000 ^ s.2.2.length * s.1=n.natAbs∧(s.2.2.length=0∨10000 ^ (s.2.2.length - 1)≤n.natAbs)) (fun s=>s.1)
   (fun s=>[(0,.int .i64 (s.1:Int)),(2,.pointer (some ⟨b2,0,none⟩)),(3,s.2.1),(4,.bool false)]) (fun s=>.ow (cN .i64) 3 s.2.1 s.2.2::.cl b2 [.bool false,.slice none 0 0] 115::As)
   (n.natAbs,.slice none 0 0,[]) ⟨by simp only;omega,(fun _ h=>by cases h),by simp [valQ],.inl rfl⟩ (by simp only;rw [show ((n.natAbs:Nat):Int)=n by omega];(exact Zad)) Zaa ?_
  rintro ⟨k,sv,xs⟩ ⟨hk,hxs,hval,hpow⟩
  simp only at hk hxs hval hpow
  show Tri _ _ _ _ [(0,.int .i64 (k:Int)),(2,_),(3,sv),(4,_)] (.ow (cN .i64) 3 sv xs::_) _
  have hxl:=hlen xs hpow
  by_cases hk0:k=0
  ·subst hk0
   rw [Nat.mul_zero,Nat.add_zero] at hval
   repeat' first|refine Kz ?_|intro _
   refine TL.call rfl rfl rfl (CallsS.ents Ents.freeze (Zdp (z:=n) hxs (by omega) hval.symm (by rw [Bool.eq_iff_iff];simp only [Bool.false_and,decide_eq_true_eq,Bool.false_eq_true,iff_false];omega))) ?_
   rintro _ _ ⟨p,cap,rfl,rfl⟩
   repeat' first|refine Kz ?_|intro _
   (refine Zac ?_)
   exact ⟨_,⟨p,cap,rfl,rfl⟩,Zaa⟩
  ·repeat' first|refine Kz ?_|intro _
   rename_i v9
   exact Post.round (k / 10000,v9,xs++[k % 10000]) ⟨by simp only;omega,Z11 hxs (by omega),Zm2 hval rfl,.inr (by simpa using Zql hk0 hval)⟩ (by simp only;omega) Zad (Ents.refl _)
end Go.Proofs.YtciadfpomkdlnaaGreatDoor
namespace Go.Sx
end Go.Sx
namespace Go.Proofs.YtciadfpomkdlnaaGreatDoor
open Go Go.Sx
variable {w0:World} {As:List Ent}
theorem Z4a {n:Int} (h0:-9223372036854775808≤n) (h1:n≤9223372036854775807):CQ Tryz.prog w0 170 [.int .i64 n] As (.string ⟨(textI n).toArray⟩):=by
 have hn:Lib.nDigits n.natAbs≤600:=Nat.le_trans (Zbf (k:=19) (by omega)) (by omega)
 have hq:(qud n.natAbs).length≤100:=by
  by_cases h:n.natAbs=0
  ·rw [h,Za3];simp
  ·have h2:=Zct h
   rcases Nat.lt_or_ge (qud n.natAbs).length 100 with h3|h3
   ·omega
   ·have:=Nat.pow_le_pow_right (n:=10000) (by omega) (show 6≤(qud n.natAbs).length - 1 by omega)
    omega
 refine Zab Tryz.func170 rfl Tryz.ntmps170 rfl ?_
 repeat' first|refine Kz ?_|intro _
 refine TL.call rfl rfl rfl (Zbi h0 h1) ?_
 rintro _ _ ⟨p,cap,rfl,rfl⟩
 repeat' first|refine Kz ?_|intro _
 refine Kt rfl (Zmu (z:=n) (by omega)) ?_
 rw [outW,if_neg (by omega)]
 repeat' first|refine Kz ?_|intro _
 exact Kv
end Go.Proofs.YtciadfpomkdlnaaGreatDoor
