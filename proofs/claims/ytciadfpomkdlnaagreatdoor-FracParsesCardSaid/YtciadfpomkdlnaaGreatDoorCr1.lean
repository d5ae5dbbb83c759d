/- Walks: the reference on fractions: arithmetic of valid fractions. -/
import Derived.Test.YtciadfpomkdlnaaGreatDoorJq1
set_option maxHeartbeats 1000000
namespace Go.Sx
open Go
theorem Zyj (r s:Rat):mkRat (if (r.den:Int) * (s.den:Int) < 0 then -(r.num * s.num) else r.num * s.num) ((r.den:Int) * (s.den:Int)).natAbs=r * s:=by
 have h:0≤(r.den:Int) * (s.den:Int):=Int.mul_nonneg (Int.natCast_nonneg _) (Int.natCast_nonneg _)
 rw [if_neg (by omega),Int.natAbs_mul,Int.natAbs_natCast,Int.natAbs_natCast,Rat.mul_def']
theorem Zsj (r s:Rat):mkRat (if (r.den:Int) * (s.den:Int) < 0 then -(r.num * (s.den:Int)+s.num * (r.den:Int)) else r.num * (s.den:Int)+s.num * (r.den:Int)) ((r.den:Int) * (s.den:Int)).natAbs=r+s:=by
 have h:0≤(r.den:Int) * (s.den:Int):=Int.mul_nonneg (Int.natCast_nonneg _) (Int.natCast_nonneg _)
 rw [if_neg (by omega),Int.natAbs_mul,Int.natAbs_natCast,Int.natAbs_natCast,Rat.add_def']
theorem den_pos (r:Rat):(0:Int) < (r.den:Int):=Int.natCast_pos.2 (Nat.pos_of_ne_zero r.den_nz)
theorem Zgb {r:Rat} (h:Fit 600 r):(qud r.num.natAbs).length≤600∧(qud (r.den:Int).natAbs).length≤600:=by
 rw [Int.natAbs_natCast];exact h.qud
theorem Zly (x y:Int):(qud (x+y).natAbs).length≤max (qud x.natAbs).length (qud y.natAbs).length+1:=by
 have:=Zne x (-y)
 rw [Int.sub_neg,Int.natAbs_neg] at this
 exact this
theorem den_mul (r s:Rat):(r.den:Int) * (s.den:Int)≠0:=Int.ne_of_gt (Int.mul_pos (den_pos r) (den_pos s))
end Go.Sx
namespace Go.Proofs.YtciadfpomkdlnaaGreatDoor
open Go Go.Sx
variable {w0:World} {As:List Ent} {v1 v2 v3 v4:Value} {r s q:Rat} {n1 d1 n2 d2:Int}
theorem Zrk [RdIn As v1 Nat (cN .i64) (qud n1.natAbs)] [RdIn As v2 Nat (cN .i64) (qud d1.natAbs)] [RdIn As v3 Nat (cN .i64) (qud n2.natAbs)] [RdIn As v4 Nat (cN .i64) (qud d2.natAbs)] (h0:d1 * d2≠0) (hq:mkRat (if d1 * d2 < 0 then -(n1 * n2) else n1 * n2) (d1 * d2).natAbs=q) (l1:(qud n1.natAbs).length≤2000) (l2:(qud d1.natAbs).length≤2000) (l3:(qud n2.natAbs).length≤2000) (l4:(qud d2.natAbs).length≤2000) :
  CallsS Tryz.prog w0 73 [.agg #[.bool (decide (n1 < 0)),v1,.bool (decide (d1 < 0)),v2],.agg #[.bool (decide (n2 < 0)),v3,.bool (decide (d2 < 0)),v4]] As (Q.RatP As q):=by
 have k0:=Zbm n1.natAbs n2.natAbs
 rw [← Int.natAbs_mul] at k0
 have k1:=Zbm d1.natAbs d2.natAbs
 rw [← Int.natAbs_mul] at k1
 refine Zab Tryz.func73 rfl Tryz.ntmps73 rfl ?_
 repeat' first|refine Kz ?_|intro _
 rename_i b2 b3 b4
 refine Zbg [.cl b2 [.bool (decide (n1 < 0)),v1,.bool (decide (d1 < 0)),v2] 117,.cl b3 [.bool (decide (n2 < 0)),v3,.bool (decide (d2 < 0)),v4] 117] [] (.take 0 (.take 1 (.take 2 (.take 3 (.take 5 (.take 6 (.take 7 (.take 8 (.all [(4,.all [(9,.all [(10,.all [(11,.done)])])])]))))))))) ?_
 repeat' first|refine Kf ?_|intro _|constructor
 refine T1.callv rfl rfl rfl rfl rfl (Zcb (v:=v1) (o:=v3) (x:=n1) (y:=n2) (by omega) (by omega)) ?_
 rintro _ _ ⟨p1,c1,rfl,rfl⟩
 repeat' first|refine Kf ?_|intro _|constructor
 refine T1.callv rfl rfl rfl rfl rfl (Zcb (v:=v2) (o:=v4) (x:=d1) (y:=d2) (by omega) (by omega)) ?_
 rintro _ _ ⟨p2,c2,rfl,rfl⟩
 repeat' first|refine Kf ?_|intro _|constructor
 refine T1.callv rfl rfl rfl rfl rfl (Q.Zl9 (v:=.slice p1 (qud (n1 * n2).natAbs).length c1) (o:=.slice p2 (qud (d1 * d2).natAbs).length c2) (x:=n1 * n2) (y:=d1 * d2) h0 (by omega) (by omega)) ?_
 rw [hq]
 rintro _ _ ⟨p3,c3,p4,c4,rfl,rfl⟩
 repeat' first|refine Kf ?_|intro _|constructor
 (refine Zac ?_)
 exact ⟨_,⟨p3,c3,p4,c4,rfl,rfl⟩,Zaa⟩
theorem Zox [RdIn As v1 Nat (cN .i64) (qud n1.natAbs)] [RdIn As v2 Nat (cN .i64) (qud d1.natAbs)] [RdIn As v3 Nat (cN .i64) (qud n2.natAbs)] [RdIn As v4 Nat (cN .i64) (qud d2.natAbs)] (h0:d1 * d2≠0) (hq:mkRat (if d1 * d2 < 0 then -(n1 * d2+n2 * d1) else n1 * d2+n2 * d1) (d1 * d2).natAbs=q) (l1:(qud n1.natAbs).length≤2000) (l2:(qud d1.natAbs).length≤2000) (l3:(qud n2.natAbs).length≤2000) (l4:(qud d2.natAbs).length≤2000) :
  CallsS Tryz.prog w0 71 [.agg #[.bool (decide (n1 < 0)),v1,.bool (decide (d1 < 0)),v2],.agg #[.bool (decide (n2 < 0)),v3,.bool (decide (d2 < 0)),v4]] As (Q.RatP As q):=by
 have k0:=Zbm n1.natAbs d2.natAbs
 rw [← Int.natAbs_mul] at k0
 have k1:=Zbm n2.natAbs d1.natAbs
 rw [← Int.natAbs_mul] at k1
 have k2:=Zbm d1.natAbs d2.natAbs
 rw [← Int.natAbs_mul] at k2
 have k4:=Zly (n1 * d2) (n2 * d1)
 refine Zab Tryz.func71 rfl Tryz.ntmps71 rfl ?_
 repeat' first|refine Kz ?_|intro _
 rename_i b2 b3 b4
 refine Tri.mid (fun e' As'=>∃ p c b5,e'=[(2,.pointer (some ⟨b2,0,none⟩)),(3,.pointer (some ⟨b3,0,none⟩)),(4,.pointer (some ⟨b4,0,none⟩)),(5,.pointer (some ⟨b5,0,none⟩))]∧As'=.cl b5 [.bool (decide (n1 * d2+n2 * d1 < 0)),.slice p (qud (n1 * d2+n2 * d1).natAbs).length c] 115::.ft (rd (cN .i64) (.slice p (qud (n1 * d2+n2 * d1).natAbs).length c) (qud (n1 * d2+n2 * d1).natAbs))::.cl b2 [.bool (decide (n1 < 0)),v1,.bool (decide (d1 < 0)),v2] 117::.cl b3 [.bool (decide (n2 < 0)),v3,.bool (decide (d2 < 0)),v4] 117::.cl b4 [.bool false,.slice none 0 0,.bool false,.slice none 0 0] 117::As) ?_ ?_
 ·refine Zbg [.cl b2 [.bool (decide (n1 < 0)),v1,.bool (decide (d1 < 0)),v2] 117,.cl b3 [.bool (decide (n2 < 0)),v3,.bool (decide (d2 < 0)),v4] 117] [] (.take 0 (.take 1 (.take 2 (.take 3 (.take 5 (.take 6 (.take 7 (.take 8 (.all [(4,.all [(9,.all [(10,.all [(11,.all [(12,.done)])]),(11,.all [(10,.all [(12,.done)])])]),(11,.all [(9,.all [(10,.all [(12,.done)])])])]),(11,.all [(4,.all [(9,.all [(10,.all [(12,.done)])])])])]))))))))) ?_
  repeat' first|refine Kf ?_|intro _|constructor
  repeat' (first|(refine T1.callv rfl rfl rfl rfl rfl (Zcb (v:=v1) (o:=v4) (x:=n1) (y:=d2) (by omega) (by omega)) ?_;rintro _ _ ⟨p1,c1,rfl,rfl⟩;(repeat' first|refine Kf ?_|intro _|constructor))|(refine T1.callv rfl rfl rfl rfl rfl (Zcb (v:=v3) (o:=v2) (x:=n2) (y:=d1) (by omega) (by omega)) ?_;rintro _ _ ⟨p2,c2,rfl,rfl⟩;(repeat' first|refine Kf ?_|intro _|constructor))|(refine T1.callv rfl rfl rfl rfl rfl (Zez (v:=.slice p1 (qud (n1 * d2).natAbs).length c1) (o:=.slice p2 (qud (n2 * d1).natAbs).length c2) (x:=n1 * d2) (y:=n2 * d1) (by omega) (by omega)) ?_;rintro _ _ ⟨p3,c3,rfl,rfl⟩;(repeat' first|refine Kf ?_|intro _|constructor)))
  all_goals exact Post.cut _ _ ⟨p3,c3,_,rfl,rfl⟩ Zae Zaa
 rintro _ _ ⟨p,c,b5,rfl,rfl⟩
 repeat' first|refine Kz ?_|intro _
 refine Zbg [.cl b2 [.bool (decide (n1 < 0)),v1,.bool (decide (d1 < 0)),v2] 117,.cl b3 [.bool (decide (n2 < 0)),v3,.bool (decide (d2 < 0)),v4] 117,.cl b5 [.bool (decide (n1 * d2+n2 * d1 < 0)),.slice p (qud (n1 * d2+n2 * d1).natAbs).length c] 115] [] (.take 0 (.take 1 (.take 2 (.take 3 (.take 4 (.all [(5,.all [(6,.all [(7,.done)])])])))))) ?_
 repeat' first|refine Kf ?_|intro _|constructor
 refine T1.callv rfl rfl rfl rfl rfl (Zcb (v:=v2) (o:=v4) (x:=d1) (y:=d2) (by omega) (by omega)) ?_
 rintro _ _ ⟨p2,c2,rfl,rfl⟩
 repeat' first|refine Kf ?_|intro _|constructor
 refine T1.callv rfl rfl rfl rfl rfl (Q.Zl9 (v:=.slice p (qud (n1 * d2+n2 * d1).natAbs).length c) (o:=.slice p2 (qud (d1 * d2).natAbs).length c2) (x:=n1 * d2+n2 * d1) (y:=d1 * d2) h0 (by omega) (by omega)) ?_
 rw [hq]
 rintro _ _ ⟨p3,c3,p4,c4,rfl,rfl⟩
 repeat' first|refine Kf ?_|intro _|constructor
 (refine Zac ?_)
 exact ⟨_,⟨p3,c3,p4,c4,rfl,rfl⟩,Zaa⟩
theorem Zsy [RdIn As v1 Nat (cN .i64) (qud n1.natAbs)] [RdIn As v2 Nat (cN .i64) (qud d1.natAbs)] (h0:d1≠0) (l1:(qud n1.natAbs).length≤2000) (l2:(qud d1.natAbs).length≤2000):CallsS Tryz.prog w0 153 [.agg #[.bool (decide (n1 < 0)),v1,.bool (decide (d1 < 0)),v2]] As (PlainR As (n1 / d1)):=by
 refine Zab Tryz.func153 rfl Tryz.ntmps153 rfl ?_
 repeat' first|refine Kz ?_|intro _
 refine TL.callv rfl rfl rfl rfl (Zf1 (v:=v1) (o:=v2) (x:=n1) (y:=d1) h0 (by omega) (by omega)) ?_
 rintro _ _ ⟨p6,c6,p7,c7,rfl,rfl⟩
 repeat' first|refine Kz ?_|intro _
 (refine Zac ?_)
 exact ⟨_,⟨p6,c6,rfl,rfl⟩,Zaa⟩
end Go.Proofs.YtciadfpomkdlnaaGreatDoor
