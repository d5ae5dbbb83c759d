/- Walks: the reference on fractions of any texts: Right, powers. -/
import Derived.Test.YtciadfpomkdlnaaGreatDoorCr1
import Derived.Test.YtciadfpomkdlnaaGreatDoorLp2
import Derived.Test.YtciadfpomkdlnaaGreatDoorLp3
import Derived.Test.YtciadfpomkdlnaaGreatDoorCc8
set_option maxHeartbeats 1000000
namespace Go.Sx
open Go
theorem Zr5 {a n L:Nat} (h:(qud a).length≤L):(qud (a ^ n)).length≤L * n+1:=by
 refine Zaj ?_
 have h1:a ^ n≤(10000 ^ (qud a).length) ^ n:=Nat.pow_le_pow_left (Nat.le_of_lt (Zaz a)) n
 rw [← Nat.pow_mul] at h1
 have h2:10000 ^ ((qud a).length * n)≤10000 ^ (L * n):=Nat.pow_le_pow_right (by decide) (Nat.mul_le_mul_right n h)
 exact Nat.lt_of_le_of_lt (Nat.le_trans h1 h2) (Nat.pow_lt_pow_right (by decide) (Nat.lt_succ_self _))
theorem Zj1 {n d:Int} {k:Nat} (hk:0 < k) (h0:d≠0) (h:Lib.nDigits d.natAbs≤k):Lib.nDigits (gcdI n d).natAbs≤k:=by
 refine Zb9 hk (Nat.lt_of_le_of_lt ?_ (Zam h))
 unfold gcdI
 rw [Int.natAbs_natCast]
 exact Nat.gcd_le_right _ (by omega)
theorem Zu6 {n d:Int} (h0:d≠0) (h:Lib.nDigits d.natAbs≤600):textI (gcdI n d)=[49]↔gcdI n d=1:=by
 constructor
 ·intro h1
  have h2:=Za7 (Zj1 (n:=n) (by decide) h0 h)
  rw [h1,show readW [49]=some 1 by decide +kernel] at h2
  exact (Option.some.inj h2).symm
 ·intro h1;rw [h1];decide +kernel
end Go.Sx
namespace Go.Proofs.YtciadfpomkdlnaaGreatDoor
open Go Go.Sx
variable {w0:World} {As:List Ent}
set_option maxHeartbeats 4000000 in
theorem Zp9 {a b:List UInt8} {n d:Int} (r1:readW a=some n) (r2:readW b=some d) (la:a.length≤1000000000) (lb:b.length≤1000000000):CQ Tryz.prog w0 65 [.agg #[.string ⟨a.toArray⟩,.string ⟨b.toArray⟩]] As (.bool (decide (0 < d∧gcdI n d=1))):=by
 have l1:=Zgm (Zcq r1)
 have g3:=Zcq r2
 have l3:=Zgm g3
 refine Zab Tryz.func65 rfl Tryz.ntmps65 rfl ?_
 repeat' first|refine Kz ?_|intro _
 refine Kt rfl (Zcz (s:=a) la) ?_
 rw [r1]
 repeat' first|refine Kz ?_|intro _
 refine Kt rfl (Zcz (s:=b) lb) ?_
 rw [r2]
 repeat' first|refine Kz ?_|intro _
 rename_i b1
 refine Tri.mid (fun e' As'=>∃ p c q d' b3 b4,e'=[(1,.pointer (some ⟨b1,0,none⟩)),(2,.bool false),(3,.pointer (some ⟨b3,0,none⟩)),(4,.pointer (some ⟨b4,0,none⟩))] ∧
  As'=.cl b3 [.bool (decide (n < 0)),.slice p (qud n.natAbs).length c] 115::.cl b4 [.bool (decide (d < 0)),.slice q (qud d.natAbs).length d'] 115 ::
   .ft (rd (cN .i64) (.slice p (qud n.natAbs).length c) (qud n.natAbs))::.ft (rd (cN .i64) (.slice q (qud d.natAbs).length d') (qud d.natAbs))::As) ?_ ?_
 ·refine Zbg [.cl b1 [.string ⟨a.toArray⟩,.string ⟨b.toArray⟩] 24] [] (.take 0 (.take 1 (.take 3 (.take 4 (.all [(2,.all [(5,.all [(6,.all [(7,.all [(8,.all [(9,.done)])])]),(7,.all [(6,.all [(8,.all [(9,.done)])])])]),(6,.all [(5,.all [(7,.all [(8,.all [(9,.done)])])]),(7,.all [(5,.all [(8,.all [(9,.done)])])])]),(7,.all [(5,.all [(6,.all [(8,.all [(9,.done)])])]),(6,.all [(5,.all [(8,.all [(9,.done)])])])])]),(6,.all [(2,.all [(5,.all [(7,.all [(8,.all [(9,.done)])])]),(7,.all [(5,.all [(8,.all [(9,.done)])])])]),(7,.all [(2,.all [(5,.all [(8,.all [(9,.done)])])])])]),(7,.all [(2,.all [(5,.all [(6,.all [(8,.all [(9,.done)])])]),(6,.all [(5,.all [(8,.all [(9,.done)])])])]),(6,.all [(2,.all [(5,.all [(8,.all [(9,.done)])])])])])]))))) ?_
  repeat' first|refine Kf ?_|intro _|constructor
  repeat' (first|(refine T1.callv rfl rfl rfl rfl rfl (Zg8 r1) ?_;rintro _ _ ⟨p1,c1,rfl,rfl⟩;(repeat' first|refine Kf ?_|intro _|constructor))|(refine T1.callv rfl rfl rfl rfl rfl (Zg8 r2) ?_;rintro _ _ ⟨p2,c2,rfl,rfl⟩;(repeat' first|refine Kf ?_|intro _|constructor)))
  all_goals exact Post.cut _ _ ⟨p1,c1,p2,c2,_,_,rfl,rfl⟩ Zae Zaa
 rintro _ _ ⟨p,c,q,d',b3,b4,rfl,rfl⟩
 by_cases hd:d < 0
 ·rw [decide_eq_true hd]
  repeat' first|refine Kz ?_|intro _
  (refine Zac ?_)
  exact ⟨_,⟨by rw [decide_eq_false (by omega)],rfl⟩,Zaa⟩
 by_cases h0:d=0
 ·have hl0:((qud d.natAbs).length:Int)=0:=by
   have:=Zaj (n:=d.natAbs) (k:=0) (by rw [Nat.pow_zero];omega)
   omega
  rw [decide_eq_false hd]
  repeat' first|refine Kz ?_|intro _
  (refine Zac ?_)
  exact ⟨_,⟨by rw [decide_eq_false (by omega)],rfl⟩,Zaa⟩
 have hl1:((qud d.natAbs).length:Int)≠0:=by
  intro h
  have h1:valQ (qud d.natAbs)=0:=by rw [List.length_eq_zero_iff.1 (show (qud d.natAbs).length=0 by omega)];rfl
  rw [Zal] at h1
  omega
 rw [decide_eq_false hd]
 repeat' first|refine Kz ?_|intro _
 have hdv:=fun Bs [FtIn Bs (.slice p (qud n.natAbs).length c) Nat (cN .i64) (qud n.natAbs)] [FtIn Bs (.slice q (qud d.natAbs).length d') Nat (cN .i64) (qud d.natAbs)]=>Zfk (w0:=w0) (As:=Bs) (v:=.slice p (qud n.natAbs).length c) (o:=.slice q (qud d.natAbs).length d') (x:=n) (y:=d) (by omega) (by omega)
 rw [decide_eq_false hd] at hdv
 refine TL.callv rfl rfl rfl rfl (hdv _) ?_
 rintro _ _ ⟨q3,d3,rfl,rfl⟩
 repeat' first|refine Kz ?_|intro _
 refine Kt rfl (Zhm (z:=gcdI n d) (Nat.le_trans (Zgm (Zj1 (n:=n) (by decide) h0 g3)) (by decide))) ?_
 repeat' first|refine Kz ?_|intro _
 (refine Zac ?_)
 refine ⟨_,⟨?_,rfl⟩,Zaa⟩
 have:=Zu6 (n:=n) h0 g3
 congr 1
 rw [Bool.eq_iff_iff]
 simp only [decide_eq_true_eq]
 constructor
 ·intro h;exact ⟨by omega,this.1 h⟩
 ·intro h;exact this.2 h.2
theorem Zh6 {a b:List UInt8} (la:a.length≤1000000000) (lb:b.length≤1000000000):CQ Tryz.prog w0 65 [.agg #[.string ⟨a.toArray⟩,.string ⟨b.toArray⟩]] As (.bool (readF a b).isSome):=by
 cases r1:readW a with
 | none =>
  have hf:readF a b=none:=by unfold readF;rw [r1]
  rw [hf]
  refine Zab Tryz.func65 rfl Tryz.ntmps65 rfl ?_
  repeat' first|refine Kz ?_|intro _
  refine Kt rfl (Zcz (s:=a) la) ?_
  rw [r1]
  repeat' first|refine Kz ?_|intro _
  exact Kv
 | some n =>
  cases r2:readW b with
  | none =>
   have hf:readF a b=none:=by unfold readF;rw [r1,r2]
   rw [hf]
   refine Zab Tryz.func65 rfl Tryz.ntmps65 rfl ?_
   repeat' first|refine Kz ?_|intro _
   refine Kt rfl (Zcz (s:=a) la) ?_
   rw [r1]
   repeat' first|refine Kz ?_|intro _
   refine Kt rfl (Zcz (s:=b) lb) ?_
   rw [r2]
   repeat' first|refine Kz ?_|intro _
   exact Kv
  | some d =>
   have hf:(readF a b).isSome=decide (0 < d∧gcdI n d=1):=by
    unfold readF gcdI
    rw [r1,r2]
    simp only
    split
    ·rename_i h;rw [decide_eq_true ⟨h.1,by omega⟩];rfl
    ·rename_i h;rw [decide_eq_false (fun k=>h ⟨k.1,by omega⟩)];rfl
   rw [hf]
   exact Zp9 r1 r2 la lb
theorem Znb {v1 v2:Value} {x:Rat} {n:Nat} [RdIn As v1 Nat (cN .i64) (qud x.num.natAbs)] [RdIn As v2 Nat (cN .i64) (qud (x.den:Int).natAbs)] (hx:Fit 600 x) (hn:n≤40) :
  CallsS Tryz.prog w0 66 [.agg #[.bool (decide (x.num < 0)),v1,.bool (decide ((x.den:Int) < 0)),v2],.int .i64 (n:Int)] As (Q.RatP As (x ^ n)):=by
 obtain ⟨l1,l2⟩:=Zgb hx
 have hD:((x ^ n).den:Int)=(x.den:Int) ^ n:=by rw [Rat.den_pow];push_cast;rfl
 have m1:=Nat.mul_le_mul l1 hn
 have m2:=Nat.mul_le_mul l2 hn
 unfold Q.RatP
 rw [Rat.num_pow,hD]
 refine Zab Tryz.func66 rfl Tryz.ntmps66 rfl ?_
 repeat' first|refine Kz ?_|intro _
 rename_i b2 b4
 refine Zbg [.cl b2 [.bool (decide (x.num < 0)),v1,.bool (decide ((x.den:Int) < 0)),v2] 117] [] (.take 0 (.take 1 (.take 2 (.take 4 (.take 5 (.take 6 (.all [(3,.all [(7,.take 8 (.all [(9,.done)]))])]))))))) ?_
 repeat' first|refine Kf ?_|intro _|constructor
 refine T1.callv rfl rfl rfl rfl rfl (Zey (v:=v1) (x:=x.num) (n:=n) (by omega) (by omega) (by omega)) ?_
 rintro _ _ ⟨p1,c1,rfl,rfl⟩
 repeat' first|refine Kf ?_|intro _|constructor
 refine T1.callv rfl rfl rfl rfl rfl (Zey (v:=v2) (x:=(x.den:Int)) (n:=n) (by omega) (by omega) (by omega)) ?_
 rintro _ _ ⟨p2,c2,rfl,rfl⟩
 repeat' first|refine Kf ?_|intro _|constructor
 (refine Zac ?_)
 exact ⟨_,⟨p1,c1,p2,c2,rfl,rfl⟩,Zaa⟩
theorem Zuq {a b:List UInt8} {n:Int} (la:a.length≤1000000000) (lb:b.length≤1000000000) :
  CQ Tryz.prog w0 14 [.agg #[.string ⟨a.toArray⟩,.string ⟨b.toArray⟩],.int .i64 n] As (.tuple #[.agg #[.string ⟨(Q.powO a b n).1.toArray⟩,.string ⟨(Q.powO a b n).2.1.toArray⟩],.int .i64 (Q.powO a b n).2.2]):=by
 rw [Q.Zz4]
 refine Zab Tryz.func14 rfl Tryz.ntmps14 rfl ?_
 repeat' first|refine Kz ?_|intro _
 refine Kt rfl (Zh6 la lb) ?_
 cases hr:readF a b with
 | none =>
  repeat' first|refine Kz ?_|intro _
  exact Kv
 | some x =>
  obtain ⟨hx,rfl,rfl⟩:=Zh7 hr
  simp only
  by_cases hn:n < 0∨40 < n
  ·rw [if_pos hn]
   (repeat' (first|((show TL _ _ _ _ (_::_) _ _ _;first|refine Zje ?_|refine Zjc ?_|(refine Zfe ?_;intro _)|(refine Zhf ?_;first|rintro _ _ ⟨rfl,rfl⟩|rintro _ _ rfl)|refine Zdm ?_|refine Zcp ?_|refine Zjd ?_|fail))|(refine Stp.h ?_)|((show Tri _ _ _ (.cond _ _ _) _ _ _;first|refine Zdk ?_|refine Zdl ?_|refine Zbr ?_|refine Zbs ?_|refine Zbc ?_|refine Zbd ?_|fail))|(first|refine Zc5 rfl rfl (fun hgs=>?_) (fun hgs=>?_)|refine Zcm rfl rfl (fun hgs=>?_) (fun hgs=>?_)|refine Zc4 rfl rfl rfl (fun hgs=>?_) (fun hgs=>?_)|refine Zcl rfl rfl rfl (fun hgs=>?_) (fun hgs=>?_))|(refine Kx (fun hc=>?_) fun hc=>?_)))
   all_goals first
    | (exfalso;omega)
    | skip
   all_goals
    exact Kv
  ·rw [if_neg hn]
   obtain ⟨m,rfl⟩:∃ m:Nat,n=(m:Int):=⟨n.toNat,by omega⟩
   have h0:¬ (m:Int) < 0:=by omega
   have h4:¬ (40:Int) < (m:Int):=by omega
   repeat' first|refine Kz ?_|intro _
   refine TL.callv rfl rfl rfl rfl (Znr hx) ?_
   rintro _ _ ⟨p1,c1,p2,c2,rfl,rfl⟩
   repeat' first|refine Kz ?_|intro _
   refine TL.callv rfl rfl rfl rfl (Znb (v1:=.slice p1 (qud x.num.natAbs).length c1) (v2:=.slice p2 (qud (x.den:Int).natAbs).length c2) (x:=x) (n:=m) hx (by omega)) ?_
   rintro _ _ ⟨p3,c3,p4,c4,rfl,rfl⟩
   repeat' first|refine Kz ?_|intro _
   obtain ⟨l1,l2⟩:=Zgb hx
   have k1:=Zr5 (n:=m) l1
   have k2:=Zr5 (n:=m) l2
   have m1:600 * m≤600 * 40:=Nat.mul_le_mul_left _ (by omega)
   refine Ks rfl (Q.Zks (v:=.slice p3 (qud (x ^ m).num.natAbs).length c3) (o:=.slice p4 (qud ((x ^ m).den:Int).natAbs).length c4) (r:=x ^ m) (by rw [Rat.num_pow,Int.natAbs_pow];omega) (by rw [Rat.den_pow,Int.natAbs_natCast];rw [Int.natAbs_natCast] at k2;omega)) ?_
   repeat' first|refine Kz ?_|intro _
   exact Kv
end Go.Proofs.YtciadfpomkdlnaaGreatDoor
