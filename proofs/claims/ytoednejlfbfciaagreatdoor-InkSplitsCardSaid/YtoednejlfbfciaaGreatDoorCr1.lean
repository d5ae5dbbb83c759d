/- Walks: the reference on fractions: arithmetic of valid fractions. -/
import Derived.Test.YtoednejlfbfciaaGreatDoorJq1
set_option maxHeartbeats 1000000
namespace Go.Sx
open Go
theorem Zxq (r s:Rat):mkRat (if (r.den:Int) * (s.den:Int) < 0 then -(r.num * s.num) else r.num * s.num) ((r.den:Int) * (s.den:Int)).natAbs=r * s:=by
 have h:0≤(r.den:Int) * (s.den:Int):=Int.mul_nonneg (Int.natCast_nonneg _) (Int.natCast_nonneg _)
 rw [if_neg (by omega),Int.natAbs_mul,Int.natAbs_natCast,Int.natAbs_natCast,Rat.mul_def']
theorem Zta (r s:Rat):mkRat (if (r.den:Int) * (s.den:Int) < 0 then -(r.num * (s.den:Int)+s.num * (r.den:Int)) else r.num * (s.den:Int)+s.num * (r.den:Int)) ((r.den:Int) * (s.den:Int)).natAbs=r+s:=by
 have h:0≤(r.den:Int) * (s.den:Int):=Int.mul_nonneg (Int.natCast_nonneg _) (Int.natCast_nonneg _)
 rw [if_neg (by omega),Int.natAbs_mul,Int.natAbs_natCast,Int.natAbs_natCast,Rat.add_def']
theorem Ztx (n d:Int):mkRat (if d < 0 then -n else n) d.natAbs=Rat.divInt n d:=by
 cases d with
 | ofNat k =>
  rw [if_neg (by simp)]
  rfl
 | negSucc k =>
  rw [if_pos (by exact Int.negSucc_lt_zero k)]
  show mkRat (-n) (k+1)=Rat.divInt n (Int.negSucc k)
  rw [Rat.divInt,Rat.mkRat_def]
  rfl
theorem Zyq (r s:Rat):mkRat (if (r.den:Int) * s.num < 0 then -(r.num * (s.den:Int)) else r.num * (s.den:Int)) ((r.den:Int) * s.num).natAbs=r * s⁻¹:=by
 rw [Ztx,Rat.inv_def]
 conv=>rhs;lhs;rw [← Rat.mkRat_self r]
 rw [← Rat.divInt_ofNat]
 rw [Rat.divInt_mul_divInt]
theorem den_pos (r:Rat):(0:Int) < (r.den:Int):=Int.natCast_pos.2 (Nat.pos_of_ne_zero r.den_nz)
theorem Zbb {r:Rat} (h:Fit 600 r):(qud r.num.natAbs).length≤600∧(qud (r.den:Int).natAbs).length≤600:=by
 rw [Int.natAbs_natCast];exact h.qud
theorem Z0f (r s:Rat):mkRat (if (r.den:Int) * (s.den:Int) < 0 then -(r.num * (s.den:Int)+-s.num * (r.den:Int)) else r.num * (s.den:Int)+-s.num * (r.den:Int)) ((r.den:Int) * (s.den:Int)).natAbs=r - s:=by
 rw [Rat.sub_eq_add_neg];exact Zta r (-s)
theorem Zma (x y:Int):(qud (x+y).natAbs).length≤max (qud x.natAbs).length (qud y.natAbs).length+1:=by
 have:=Znw x (-y)
 rw [Int.sub_neg,Int.natAbs_neg] at this
 exact this
theorem den_mul (r s:Rat):(r.den:Int) * (s.den:Int)≠0:=Int.ne_of_gt (Int.mul_pos (den_pos r) (den_pos s))
end Go.Sx
namespace Go.Proofs.YtoednejlfbfciaaGreatDoor
open Go Go.Sx
variable {w0:World} {As:List Ent} {v1 v2 v3 v4:Value} {r s q:Rat} {n1 d1 n2 d2:Int}
theorem Zlw [RdIn As v1 Nat (cN .i64) (qud n1.natAbs)] [RdIn As v2 Nat (cN .i64) (qud d1.natAbs)] [RdIn As v3 Nat (cN .i64) (qud n2.natAbs)] [RdIn As v4 Nat (cN .i64) (qud d2.natAbs)] (h0:d1 * d2≠0) (hq:mkRat (if d1 * d2 < 0 then -(n1 * n2) else n1 * n2) (d1 * d2).natAbs=q) (l1:(qud n1.natAbs).length≤2000) (l2:(qud d1.natAbs).length≤2000) (l3:(qud n2.natAbs).length≤2000) (l4:(qud d2.natAbs).length≤2000) :
  CallsS Tryz.prog w0 63 [.agg #[.bool (decide (n1 < 0)),v1,.bool (decide (d1 < 0)),v2],.agg #[.bool (decide (n2 < 0)),v3,.bool (decide (d2 < 0)),v4]] As (Q.RatP As q):=by
 have k0:=Za3 n1.natAbs n2.natAbs
 rw [← Int.natAbs_mul] at k0
 have k1:=Za3 d1.natAbs d2.natAbs
 rw [← Int.natAbs_mul] at k1
 refine Zab Tryz.func63 rfl Tryz.ntmps63 rfl ?_
 repeat' first|refine Kz ?_|intro _
 rename_i b2 b3 b4
 refine Zaj [.cl b2 [.bool (decide (n1 < 0)),v1,.bool (decide (d1 < 0)),v2] 101,.cl b3 [.bool (decide (n2 < 0)),v3,.bool (decide (d2 < 0)),v4] 101] [] (.take 0 (.take 1 (.take 2 (.take 3 (.take 5 (.take 6 (.take 7 (.take 8 (.all [(4,.all [(9,.all [(10,.all [(11,.done)])])])]))))))))) ?_
 repeat' first|refine Kf ?_|intro _|constructor
 refine T1.callv rfl rfl rfl rfl rfl (Zb1 (v:=v1) (o:=v3) (x:=n1) (y:=n2) (by omega) (by omega)) ?_
 rintro _ _ ⟨p1,c1,rfl,rfl⟩
 repeat' first|refine Kf ?_|intro _|constructor
 refine T1.callv rfl rfl rfl rfl rfl (Zb1 (v:=v2) (o:=v4) (x:=d1) (y:=d2) (by omega) (by omega)) ?_
 rintro _ _ ⟨p2,c2,rfl,rfl⟩
 repeat' first|refine Kf ?_|intro _|constructor
 refine T1.callv rfl rfl rfl rfl rfl (Q.Ztg (v:=.slice p1 (qud (n1 * n2).natAbs).length c1) (o:=.slice p2 (qud (d1 * d2).natAbs).length c2) (x:=n1 * n2) (y:=d1 * d2) h0 (by omega) (by omega)) ?_
 rw [hq]
 rintro _ _ ⟨p3,c3,p4,c4,rfl,rfl⟩
 repeat' first|refine Kf ?_|intro _|constructor
 (refine Zac ?_)
 exact ⟨_,⟨p3,c3,p4,c4,rfl,rfl⟩,Zaa⟩
theorem Zv7 [RdIn As v1 Nat (cN .i64) (qud n1.natAbs)] [RdIn As v2 Nat (cN .i64) (qud d1.natAbs)] [RdIn As v3 Nat (cN .i64) (qud n2.natAbs)] [RdIn As v4 Nat (cN .i64) (qud d2.natAbs)] (h0:d1 * n2≠0) (hq:mkRat (if d1 * n2 < 0 then -(n1 * d2) else n1 * d2) (d1 * n2).natAbs=q) (l1:(qud n1.natAbs).length≤2000) (l2:(qud d1.natAbs).length≤2000) (l3:(qud n2.natAbs).length≤2000) (l4:(qud d2.natAbs).length≤2000) :
  CallsS Tryz.prog w0 137 [.agg #[.bool (decide (n1 < 0)),v1,.bool (decide (d1 < 0)),v2],.agg #[.bool (decide (n2 < 0)),v3,.bool (decide (d2 < 0)),v4]] As (Q.RatP As q):=by
 have k0:=Za3 n1.natAbs d2.natAbs
 rw [← Int.natAbs_mul] at k0
 have k1:=Za3 d1.natAbs n2.natAbs
 rw [← Int.natAbs_mul] at k1
 refine Zab Tryz.func137 rfl Tryz.ntmps137 rfl ?_
 repeat' first|refine Kz ?_|intro _
 rename_i b2 b3 b4
 refine Zaj [.cl b2 [.bool (decide (n1 < 0)),v1,.bool (decide (d1 < 0)),v2] 101,.cl b3 [.bool (decide (n2 < 0)),v3,.bool (decide (d2 < 0)),v4] 101] [] (.take 0 (.take 1 (.take 2 (.take 3 (.take 5 (.take 6 (.take 7 (.take 8 (.all [(4,.all [(9,.all [(10,.all [(11,.done)])])])]))))))))) ?_
 repeat' first|refine Kf ?_|intro _|constructor
 refine T1.callv rfl rfl rfl rfl rfl (Zb1 (v:=v1) (o:=v4) (x:=n1) (y:=d2) (by omega) (by omega)) ?_
 rintro _ _ ⟨p1,c1,rfl,rfl⟩
 repeat' first|refine Kf ?_|intro _|constructor
 refine T1.callv rfl rfl rfl rfl rfl (Zb1 (v:=v2) (o:=v3) (x:=d1) (y:=n2) (by omega) (by omega)) ?_
 rintro _ _ ⟨p2,c2,rfl,rfl⟩
 repeat' first|refine Kf ?_|intro _|constructor
 refine T1.callv rfl rfl rfl rfl rfl (Q.Ztg (v:=.slice p1 (qud (n1 * d2).natAbs).length c1) (o:=.slice p2 (qud (d1 * n2).natAbs).length c2) (x:=n1 * d2) (y:=d1 * n2) h0 (by omega) (by omega)) ?_
 rw [hq]
 rintro _ _ ⟨p3,c3,p4,c4,rfl,rfl⟩
 repeat' first|refine Kf ?_|intro _|constructor
 (refine Zac ?_)
 exact ⟨_,⟨p3,c3,p4,c4,rfl,rfl⟩,Zaa⟩
theorem Zkq [RdIn As v1 Nat (cN .i64) (qud n1.natAbs)] [RdIn As v2 Nat (cN .i64) (qud d1.natAbs)] [RdIn As v3 Nat (cN .i64) (qud n2.natAbs)] [RdIn As v4 Nat (cN .i64) (qud d2.natAbs)] (h0:d1 * d2≠0) (hq:mkRat (if d1 * d2 < 0 then -(n1 * d2+n2 * d1) else n1 * d2+n2 * d1) (d1 * d2).natAbs=q) (l1:(qud n1.natAbs).length≤2000) (l2:(qud d1.natAbs).length≤2000) (l3:(qud n2.natAbs).length≤2000) (l4:(qud d2.natAbs).length≤2000) :
  CallsS Tryz.prog w0 99 [.agg #[.bool (decide (n1 < 0)),v1,.bool (decide (d1 < 0)),v2],.agg #[.bool (decide (n2 < 0)),v3,.bool (decide (d2 < 0)),v4]] As (Q.RatP As q):=by
 have k0:=Za3 n1.natAbs d2.natAbs
 rw [← Int.natAbs_mul] at k0
 have k1:=Za3 n2.natAbs d1.natAbs
 rw [← Int.natAbs_mul] at k1
 have k2:=Za3 d1.natAbs d2.natAbs
 rw [← Int.natAbs_mul] at k2
 have k4:=Zma (n1 * d2) (n2 * d1)
 refine Zab Tryz.func99 rfl Tryz.ntmps99 rfl ?_
 repeat' first|refine Kz ?_|intro _
 rename_i b2 b3 b4
 refine Tri.mid (fun e' As'=>∃ p c b5,e'=[(2,.pointer (some ⟨b2,0,none⟩)),(3,.pointer (some ⟨b3,0,none⟩)),(4,.pointer (some ⟨b4,0,none⟩)),(5,.pointer (some ⟨b5,0,none⟩))]∧As'=.cl b5 [.bool (decide (n1 * d2+n2 * d1 < 0)),.slice p (qud (n1 * d2+n2 * d1).natAbs).length c] 98::.ft (rd (cN .i64) (.slice p (qud (n1 * d2+n2 * d1).natAbs).length c) (qud (n1 * d2+n2 * d1).natAbs))::.cl b2 [.bool (decide (n1 < 0)),v1,.bool (decide (d1 < 0)),v2] 101::.cl b3 [.bool (decide (n2 < 0)),v3,.bool (decide (d2 < 0)),v4] 101::.cl b4 [.bool false,.slice none 0 0,.bool false,.slice none 0 0] 101::As) ?_ ?_
 ·refine Zaj [.cl b2 [.bool (decide (n1 < 0)),v1,.bool (decide (d1 < 0)),v2] 101,.cl b3 [.bool (decide (n2 < 0)),v3,.bool (decide (d2 < 0)),v4] 101] [] (.take 0 (.take 1 (.take 2 (.take 3 (.take 5 (.take 6 (.take 7 (.take 8 (.all [(4,.all [(9,.all [(10,.all [(11,.all [(12,.done)])]),(11,.all [(10,.all [(12,.done)])])]),(11,.all [(9,.all [(10,.all [(12,.done)])])])]),(11,.all [(4,.all [(9,.all [(10,.all [(12,.done)])])])])]))))))))) ?_
  repeat' first|refine Kf ?_|intro _|constructor
  repeat' (first|(refine T1.callv rfl rfl rfl rfl rfl (Zb1 (v:=v1) (o:=v4) (x:=n1) (y:=d2) (by omega) (by omega)) ?_;rintro _ _ ⟨p1,c1,rfl,rfl⟩;(repeat' first|refine Kf ?_|intro _|constructor))|(refine T1.callv rfl rfl rfl rfl rfl (Zb1 (v:=v3) (o:=v2) (x:=n2) (y:=d1) (by omega) (by omega)) ?_;rintro _ _ ⟨p2,c2,rfl,rfl⟩;(repeat' first|refine Kf ?_|intro _|constructor))|(refine T1.callv rfl rfl rfl rfl rfl (Zhl (v:=.slice p1 (qud (n1 * d2).natAbs).length c1) (o:=.slice p2 (qud (n2 * d1).natAbs).length c2) (x:=n1 * d2) (y:=n2 * d1) (by omega) (by omega)) ?_;rintro _ _ ⟨p3,c3,rfl,rfl⟩;(repeat' first|refine Kf ?_|intro _|constructor)))
  all_goals exact Post.cut _ _ ⟨p3,c3,_,rfl,rfl⟩ Zae Zaa
 rintro _ _ ⟨p,c,b5,rfl,rfl⟩
 repeat' first|refine Kz ?_|intro _
 refine Zaj [.cl b2 [.bool (decide (n1 < 0)),v1,.bool (decide (d1 < 0)),v2] 101,.cl b3 [.bool (decide (n2 < 0)),v3,.bool (decide (d2 < 0)),v4] 101,.cl b5 [.bool (decide (n1 * d2+n2 * d1 < 0)),.slice p (qud (n1 * d2+n2 * d1).natAbs).length c] 98] [] (.take 0 (.take 1 (.take 2 (.take 3 (.take 4 (.all [(5,.all [(6,.all [(7,.done)])])])))))) ?_
 repeat' first|refine Kf ?_|intro _|constructor
 refine T1.callv rfl rfl rfl rfl rfl (Zb1 (v:=v2) (o:=v4) (x:=d1) (y:=d2) (by omega) (by omega)) ?_
 rintro _ _ ⟨p2,c2,rfl,rfl⟩
 repeat' first|refine Kf ?_|intro _|constructor
 refine T1.callv rfl rfl rfl rfl rfl (Q.Ztg (v:=.slice p (qud (n1 * d2+n2 * d1).natAbs).length c) (o:=.slice p2 (qud (d1 * d2).natAbs).length c2) (x:=n1 * d2+n2 * d1) (y:=d1 * d2) h0 (by omega) (by omega)) ?_
 rw [hq]
 rintro _ _ ⟨p3,c3,p4,c4,rfl,rfl⟩
 repeat' first|refine Kf ?_|intro _|constructor
 (refine Zac ?_)
 exact ⟨_,⟨p3,c3,p4,c4,rfl,rfl⟩,Zaa⟩
theorem Zvi [FtIn As v1 Nat (cN .i64) (qud n1.natAbs)] [RdIn As v2 Nat (cN .i64) (qud d1.natAbs)] (l1:(qud n1.natAbs).length≤2000) :
  CallsS Tryz.prog w0 174 [.agg #[.bool (decide (n1 < 0)),v1,.bool (decide (d1 < 0)),v2]] As fun u Bs=>∃ p c,u=.agg #[.bool (decide (-n1 < 0)),.slice p (qud (-n1).natAbs).length c,.bool (decide (d1 < 0)),v2]∧Bs=.ft (rd (cN .i64) (.slice p (qud (-n1).natAbs).length c) (qud (-n1).natAbs))::As:=by
 refine Zad v2 fun p2 c2 e2=>?_
 subst e2
 refine Zab Tryz.func174 rfl Tryz.ntmps174 rfl ?_
 repeat' first|refine Kz ?_|intro _
 rename_i b1 b2
 refine Zaj [.cl b1 [.bool (decide (n1 < 0)),v1,.bool (decide (d1 < 0)),.slice p2 (qud d1.natAbs).length c2] 101] [] (.take 0 (.take 1 (.take 3 (.take 4 (.all [(2,.take 5 (.all [(6,.done)]))]))))) ?_
 repeat' first|refine Kf ?_|intro _|constructor
 refine T1.callv rfl rfl rfl rfl rfl (Zhg (v:=v1) (x:=n1) (by omega)) ?_
 rintro _ _ ⟨p,c,rfl,rfl⟩
 repeat' first|refine Kf ?_|intro _|constructor
 (refine Zac ?_)
 exact ⟨_,⟨p,c,rfl,rfl⟩,Zaa⟩
theorem Ztb [RdIn As v1 Nat (cN .i64) (qud n1.natAbs)] [RdIn As v2 Nat (cN .i64) (qud d1.natAbs)] [FtIn As v3 Nat (cN .i64) (qud n2.natAbs)] [RdIn As v4 Nat (cN .i64) (qud d2.natAbs)] (h0:d1 * d2≠0) (hq:mkRat (if d1 * d2 < 0 then -(n1 * d2+-n2 * d1) else n1 * d2+-n2 * d1) (d1 * d2).natAbs=q) (l1:(qud n1.natAbs).length≤2000) (l2:(qud d1.natAbs).length≤2000) (l3:(qud n2.natAbs).length≤2000) (l4:(qud d2.natAbs).length≤2000) :
  CallsS Tryz.prog w0 136 [.agg #[.bool (decide (n1 < 0)),v1,.bool (decide (d1 < 0)),v2],.agg #[.bool (decide (n2 < 0)),v3,.bool (decide (d2 < 0)),v4]] As (Q.RatP As q):=by
 have l5:(qud (-n2).natAbs).length≤2000:=by rw [Int.natAbs_neg];exact l3
 refine Zab Tryz.func136 rfl Tryz.ntmps136 rfl ?_
 repeat' first|refine Kz ?_|intro _
 rename_i b2 b3 b4
 refine Zaj [.cl b2 [.bool (decide (n1 < 0)),v1,.bool (decide (d1 < 0)),v2] 101,.cl b3 [.bool (decide (n2 < 0)),v3,.bool (decide (d2 < 0)),v4] 101] [] (.take 0 (.take 1 (.all [(2,.all [(3,.all [(4,.done)])])]))) ?_
 repeat' first|refine Kf ?_|intro _|constructor
 refine T1.callv rfl rfl rfl rfl rfl (Zvi (v1:=v3) (v2:=v4) (n1:=n2) (d1:=d2) l3) ?_
 rintro _ _ ⟨p,c,rfl,rfl⟩
 repeat' first|refine Kf ?_|intro _|constructor
 refine T1.callv rfl rfl rfl rfl rfl (Zkq (v1:=v1) (v2:=v2) (v3:=.slice p (qud (-n2).natAbs).length c) (v4:=v4) (n1:=n1) (d1:=d1) (n2:=-n2) (d2:=d2) h0 hq l1 l2 l5 l4) ?_
 rintro _ _ ⟨p3,c3,p4,c4,rfl,rfl⟩
 repeat' first|refine Kf ?_|intro _|constructor
 (refine Zac ?_)
 exact ⟨_,⟨p3,c3,p4,c4,rfl,rfl⟩,Zaa⟩
set_option maxHeartbeats 1000000 in
theorem Zlb (hr:Fit 600 r) (hs:Fit 600 s) (h:Fit 600 (r+s)):CQ Tryz.prog w0 88 [.agg #[.string ⟨(tN r).toArray⟩,.string ⟨(tD r).toArray⟩],.agg #[.string ⟨(tN s).toArray⟩,.string ⟨(tD s).toArray⟩]] As (.tuple #[.agg #[.string ⟨(tN (r+s)).toArray⟩,.string ⟨(tD (r+s)).toArray⟩],.int .i64 0]):=by
 obtain ⟨l1,l2⟩:=Zbb hr
 obtain ⟨l3,l4⟩:=Zbb hs
 have hot:=h.ot
 obtain ⟨l5,l6⟩:=Zbb h
 have h0:=den_mul r s
 refine Zab Tryz.func88 rfl Tryz.ntmps88 rfl ?_
 repeat' first|refine Kz ?_|intro _
 refine Ks rfl (Zaw hr) ?_
 repeat' first|refine Kz ?_|intro _
 refine Ks rfl (Zaw hs) ?_
 repeat' first|refine Kz ?_|intro _
 rename_i b2 b3 b4
 refine Zaj [.cl b2 [.string ⟨(tN r).toArray⟩,.string ⟨(tD r).toArray⟩] 72,.cl b3 [.string ⟨(tN s).toArray⟩,.string ⟨(tD s).toArray⟩] 72] [] (.take 0 (.take 2 (.all [(1,.all [(3,.all [(4,.all [(5,.take 6 (.take 7 (.all [(8,.take 9 (.done))])))])])])]))) ?_
 repeat' first|refine Kf ?_|intro _|constructor
 refine T1.callv rfl rfl rfl rfl rfl (Zbn hr) ?_
 rintro _ _ ⟨p1,c1,p2,c2,rfl,rfl⟩
 repeat' first|refine Kf ?_|intro _|constructor
 refine T1.callv rfl rfl rfl rfl rfl (Zbn hs) ?_
 rintro _ _ ⟨p3,c3,p4,c4,rfl,rfl⟩
 repeat' first|refine Kf ?_|intro _|constructor
 refine T1.callv rfl rfl rfl rfl rfl (Zkq (v1:=.slice p1 (qud r.num.natAbs).length c1) (v2:=.slice p2 (qud (r.den:Int).natAbs).length c2) (v3:=.slice p3 (qud s.num.natAbs).length c3) (v4:=.slice p4 (qud (s.den:Int).natAbs).length c4) (n1:=r.num) (d1:=(r.den:Int)) (n2:=s.num) (d2:=(s.den:Int)) h0 (Zta r s) (by omega) (by omega) (by omega) (by omega)) ?_
 generalize r+s=Z at l5 l6 hot ⊢
 rintro _ _ ⟨p5,c5,p6,c6,rfl,rfl⟩
 repeat' first|refine Kf ?_|intro _|constructor
 refine T1.callv rfl rfl rfl rfl rfl (Q.Z14 (v:=.slice p5 (qud Z.num.natAbs).length c5) (o:=.slice p6 (qud (Z.den:Int).natAbs).length c6) (r:=Z) (by omega) (by omega)) ?_
 rw [hot]
 rintro _ _ ⟨rfl,rfl⟩
 repeat' first|refine Kf ?_|intro _|constructor
 exact Kv
set_option maxHeartbeats 1000000 in
theorem Zvq (hr:Fit 600 r) (hs:Fit 600 s) (h:Fit 600 (r - s)):CQ Tryz.prog w0 87 [.agg #[.string ⟨(tN r).toArray⟩,.string ⟨(tD r).toArray⟩],.agg #[.string ⟨(tN s).toArray⟩,.string ⟨(tD s).toArray⟩]] As (.tuple #[.agg #[.string ⟨(tN (r - s)).toArray⟩,.string ⟨(tD (r - s)).toArray⟩],.int .i64 0]):=by
 obtain ⟨l1,l2⟩:=Zbb hr
 obtain ⟨l3,l4⟩:=Zbb hs
 have hot:=h.ot
 obtain ⟨l5,l6⟩:=Zbb h
 have h0:=den_mul r s
 refine Zab Tryz.func87 rfl Tryz.ntmps87 rfl ?_
 repeat' first|refine Kz ?_|intro _
 refine Ks rfl (Zaw hr) ?_
 repeat' first|refine Kz ?_|intro _
 refine Ks rfl (Zaw hs) ?_
 repeat' first|refine Kz ?_|intro _
 rename_i b2 b3 b4
 refine Zaj [.cl b2 [.string ⟨(tN r).toArray⟩,.string ⟨(tD r).toArray⟩] 72,.cl b3 [.string ⟨(tN s).toArray⟩,.string ⟨(tD s).toArray⟩] 72] [] (.take 0 (.take 2 (.all [(1,.all [(3,.all [(4,.all [(5,.take 6 (.take 7 (.all [(8,.take 9 (.done))])))])])])]))) ?_
 repeat' first|refine Kf ?_|intro _|constructor
 refine T1.callv rfl rfl rfl rfl rfl (Zbn hr) ?_
 rintro _ _ ⟨p1,c1,p2,c2,rfl,rfl⟩
 repeat' first|refine Kf ?_|intro _|constructor
 refine T1.callv rfl rfl rfl rfl rfl (Zbn hs) ?_
 rintro _ _ ⟨p3,c3,p4,c4,rfl,rfl⟩
 repeat' first|refine Kf ?_|intro _|constructor
 refine T1.callv rfl rfl rfl rfl rfl (Ztb (v1:=.slice p1 (qud r.num.natAbs).length c1) (v2:=.slice p2 (qud (r.den:Int).natAbs).length c2) (v3:=.slice p3 (qud s.num.natAbs).length c3) (v4:=.slice p4 (qud (s.den:Int).natAbs).length c4) (n1:=r.num) (d1:=(r.den:Int)) (n2:=s.num) (d2:=(s.den:Int)) h0 (Z0f r s) (by omega) (by omega) (by omega) (by omega)) ?_
 generalize r - s=Z at l5 l6 hot ⊢
 rintro _ _ ⟨p5,c5,p6,c6,rfl,rfl⟩
 repeat' first|refine Kf ?_|intro _|constructor
 refine T1.callv rfl rfl rfl rfl rfl (Q.Z14 (v:=.slice p5 (qud Z.num.natAbs).length c5) (o:=.slice p6 (qud (Z.den:Int).natAbs).length c6) (r:=Z) (by omega) (by omega)) ?_
 rw [hot]
 rintro _ _ ⟨rfl,rfl⟩
 repeat' first|refine Kf ?_|intro _|constructor
 exact Kv
set_option maxHeartbeats 1000000 in
theorem Zhn (hr:Fit 600 r) (hs:Fit 600 s) (h:Fit 600 (r * s)):CQ Tryz.prog w0 85 [.agg #[.string ⟨(tN r).toArray⟩,.string ⟨(tD r).toArray⟩],.agg #[.string ⟨(tN s).toArray⟩,.string ⟨(tD s).toArray⟩]] As (.tuple #[.agg #[.string ⟨(tN (r * s)).toArray⟩,.string ⟨(tD (r * s)).toArray⟩],.int .i64 0]):=by
 obtain ⟨l1,l2⟩:=Zbb hr
 obtain ⟨l3,l4⟩:=Zbb hs
 have hot:=h.ot
 obtain ⟨l5,l6⟩:=Zbb h
 have h0:=den_mul r s
 refine Zab Tryz.func85 rfl Tryz.ntmps85 rfl ?_
 repeat' first|refine Kz ?_|intro _
 refine Ks rfl (Zaw hr) ?_
 repeat' first|refine Kz ?_|intro _
 refine Ks rfl (Zaw hs) ?_
 repeat' first|refine Kz ?_|intro _
 rename_i b2 b3 b4
 refine Zaj [.cl b2 [.string ⟨(tN r).toArray⟩,.string ⟨(tD r).toArray⟩] 72,.cl b3 [.string ⟨(tN s).toArray⟩,.string ⟨(tD s).toArray⟩] 72] [] (.take 0 (.take 2 (.all [(1,.all [(3,.all [(4,.all [(5,.take 6 (.take 7 (.all [(8,.take 9 (.done))])))])])])]))) ?_
 repeat' first|refine Kf ?_|intro _|constructor
 refine T1.callv rfl rfl rfl rfl rfl (Zbn hr) ?_
 rintro _ _ ⟨p1,c1,p2,c2,rfl,rfl⟩
 repeat' first|refine Kf ?_|intro _|constructor
 refine T1.callv rfl rfl rfl rfl rfl (Zbn hs) ?_
 rintro _ _ ⟨p3,c3,p4,c4,rfl,rfl⟩
 repeat' first|refine Kf ?_|intro _|constructor
 refine T1.callv rfl rfl rfl rfl rfl (Zlw (v1:=.slice p1 (qud r.num.natAbs).length c1) (v2:=.slice p2 (qud (r.den:Int).natAbs).length c2) (v3:=.slice p3 (qud s.num.natAbs).length c3) (v4:=.slice p4 (qud (s.den:Int).natAbs).length c4) (n1:=r.num) (d1:=(r.den:Int)) (n2:=s.num) (d2:=(s.den:Int)) h0 (Zxq r s) (by omega) (by omega) (by omega) (by omega)) ?_
 generalize r * s=Z at l5 l6 hot ⊢
 rintro _ _ ⟨p5,c5,p6,c6,rfl,rfl⟩
 repeat' first|refine Kf ?_|intro _|constructor
 refine T1.callv rfl rfl rfl rfl rfl (Q.Z14 (v:=.slice p5 (qud Z.num.natAbs).length c5) (o:=.slice p6 (qud (Z.den:Int).natAbs).length c6) (r:=Z) (by omega) (by omega)) ?_
 rw [hot]
 rintro _ _ ⟨rfl,rfl⟩
 repeat' first|refine Kf ?_|intro _|constructor
 exact Kv
theorem Zvm {r:Rat} (h:Fit 600 r):tN r=[48]↔r=0:=by
 constructor
 ·intro h1
  have h2:readW (tN r)=some r.num:=(Zh0 h.rd).1
  rw [h1,show readW [48]=some 0 by decide +kernel] at h2
  exact Rat.num_eq_zero.1 (Option.some.inj h2).symm
 ·rintro rfl
  exact Zb9 (by decide +kernel)
set_option maxHeartbeats 1000000 in
theorem Zp0 (hr:Fit 600 r) (hs:Fit 600 s) (hs0:s≠0) (h:Fit 600 (r * s⁻¹)):CQ Tryz.prog w0 89 [.agg #[.string ⟨(tN r).toArray⟩,.string ⟨(tD r).toArray⟩],.agg #[.string ⟨(tN s).toArray⟩,.string ⟨(tD s).toArray⟩]] As (.tuple #[.agg #[.string ⟨(tN (r * s⁻¹)).toArray⟩,.string ⟨(tD (r * s⁻¹)).toArray⟩],.int .i64 0]):=by
 obtain ⟨l1,l2⟩:=Zbb hr
 obtain ⟨l3,l4⟩:=Zbb hs
 have hot:=h.ot
 obtain ⟨l5,l6⟩:=Zbb h
 have h0:(r.den:Int) * s.num≠0:=Int.mul_ne_zero (Int.ne_of_gt (den_pos r)) (fun h=>hs0 (Rat.num_eq_zero.1 h))
 have hz:¬ tN s=[48]:=fun h=>hs0 ((Zvm hs).1 h)
 refine Zab Tryz.func89 rfl Tryz.ntmps89 rfl ?_
 repeat' first|refine Kz ?_|intro _
 refine Ks rfl (Zaw hr) ?_
 repeat' first|refine Kz ?_|intro _
 refine Ks rfl (Zaw hs) ?_
 repeat' first|refine Kz ?_|intro _
 rename_i b2 b3 b4
 refine Zaj [.cl b2 [.string ⟨(tN r).toArray⟩,.string ⟨(tD r).toArray⟩] 72,.cl b3 [.string ⟨(tN s).toArray⟩,.string ⟨(tD s).toArray⟩] 72] [] (.take 0 (.take 2 (.all [(1,.all [(3,.all [(4,.all [(5,.take 6 (.take 7 (.all [(8,.take 9 (.done))])))])])])]))) ?_
 repeat' first|refine Kf ?_|intro _|constructor
 refine T1.callv rfl rfl rfl rfl rfl (Zbn hr) ?_
 rintro _ _ ⟨p1,c1,p2,c2,rfl,rfl⟩
 repeat' first|refine Kf ?_|intro _|constructor
 refine T1.callv rfl rfl rfl rfl rfl (Zbn hs) ?_
 rintro _ _ ⟨p3,c3,p4,c4,rfl,rfl⟩
 repeat' first|refine Kf ?_|intro _|constructor
 refine T1.callv rfl rfl rfl rfl rfl (Zv7 (v1:=.slice p1 (qud r.num.natAbs).length c1) (v2:=.slice p2 (qud (r.den:Int).natAbs).length c2) (v3:=.slice p3 (qud s.num.natAbs).length c3) (v4:=.slice p4 (qud (s.den:Int).natAbs).length c4) (n1:=r.num) (d1:=(r.den:Int)) (n2:=s.num) (d2:=(s.den:Int)) h0 (Zyq r s) (by omega) (by omega) (by omega) (by omega)) ?_
 generalize r * s⁻¹=Z at l5 l6 hot ⊢
 rintro _ _ ⟨p5,c5,p6,c6,rfl,rfl⟩
 repeat' first|refine Kf ?_|intro _|constructor
 refine T1.callv rfl rfl rfl rfl rfl (Q.Z14 (v:=.slice p5 (qud Z.num.natAbs).length c5) (o:=.slice p6 (qud (Z.den:Int).natAbs).length c6) (r:=Z) (by omega) (by omega)) ?_
 rw [hot]
 rintro _ _ ⟨rfl,rfl⟩
 repeat' first|refine Kf ?_|intro _|constructor
 exact Kv
theorem Ztw [RdIn As v1 Nat (cN .i64) (qud n1.natAbs)] [RdIn As v2 Nat (cN .i64) (qud d1.natAbs)] (h0:d1≠0) (l1:(qud n1.natAbs).length≤2000) (l2:(qud d1.natAbs).length≤2000):CallsS Tryz.prog w0 98 [.agg #[.bool (decide (n1 < 0)),v1,.bool (decide (d1 < 0)),v2]] As (PlainR As (n1 / d1)):=by
 refine Zab Tryz.func98 rfl Tryz.ntmps98 rfl ?_
 repeat' first|refine Kz ?_|intro _
 refine TL.callv rfl rfl rfl rfl (Zh3 (v:=v1) (o:=v2) (x:=n1) (y:=d1) h0 (by omega) (by omega)) ?_
 rintro _ _ ⟨p6,c6,p7,c7,rfl,rfl⟩
 repeat' first|refine Kz ?_|intro _
 (refine Zac ?_)
 exact ⟨_,⟨p6,c6,rfl,rfl⟩,Zaa⟩
end Go.Proofs.YtoednejlfbfciaaGreatDoor
