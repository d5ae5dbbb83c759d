/- Walks: the reference on fractions: of two integers, kept within two others, the nearest integer. -/
import Derived.Test.YtoednejlfbfciaaGreatDoorKp5
import Derived.Test.YtoednejlfbfciaaGreatDoorCd1
import Derived.Test.YtoednejlfbfciaaGreatDoorCr1
import Derived.Test.YtoednejlfbfciaaGreatDoorCc3
import Derived.Test.YtoednejlfbfciaaGreatDoorVb1
import Derived.Test.YtoednejlfbfciaaGreatDoorJq1
set_option maxHeartbeats 1000000
namespace Go.Sx
open Go
theorem Zws {x:Rat}:(if ordQ x ((0:Int):Rat) < 0 then ((0:Int):Rat) else if 0 < ordQ x ((1:Int):Rat) then ((1:Int):Rat) else x)=clampQ x:=by
 unfold clampQ
 have e0:((0:Int):Rat)=0:=rfl
 have e1:((1:Int):Rat)=1:=rfl
 rw [e0,e1]
 simp only [Zkr,Zks]
end Go.Sx
namespace Go.Proofs.YtoednejlfbfciaaGreatDoor
open Go Go.Sx
variable {w0:World} {As:List Ent}
theorem Zpn {n d:Int} (hn:-1000000000000≤n∧n≤1000000000000) (hd:1≤d∧d≤1000000000000):CQ Tryz.prog w0 59 [.int .i64 n,.int .i64 d] As (.tuple #[.agg #[.string ⟨(tN (mkRat n d.toNat)).toArray⟩,.string ⟨(tD (mkRat n d.toNat)).toArray⟩],.int .i64 0]):=by
 have f6:Fit 600 (mkRat n d.toNat):=(Zdk (z:=n) (d:=d.toNat) (k:=13) (by decide) (by omega) (by omega) (by omega)).mono (by decide)
 obtain ⟨l1,l2⟩:=Zbb f6
 have hot:=f6.ot
 refine Zab Tryz.func59 rfl Tryz.ntmps59 rfl ?_
 repeat' first|refine Kz ?_|intro _
 refine TL.callv rfl rfl rfl rfl (Q.Z1f (x:=n) (y:=d) (by omega) (by omega)) ?_
 generalize mkRat n d.toNat=r at l1 l2 hot ⊢
 rintro _ _ ⟨p1,c1,p2,c2,rfl,rfl⟩
 repeat' first|refine Kz ?_|intro _
 refine TL.callv rfl rfl rfl rfl (Q.Z14 (v:=.slice p1 (qud r.num.natAbs).length c1) (o:=.slice p2 (qud (r.den:Int).natAbs).length c2) (r:=r) (by omega) (by omega)) ?_
 rw [hot]
 rintro _ _ ⟨rfl,rfl⟩
 repeat' first|refine Kz ?_|intro _
 exact Kv
theorem Zym {n d:Int} (hn:-1000000000000≤n∧n≤1000000000000) (hd:1≤d∧d≤1000000000000):CQ Tryz.prog w0 39 [.int .i64 n,.int .i64 d] As (.agg #[.string ⟨(tN (mkRat n d.toNat)).toArray⟩,.string ⟨(tD (mkRat n d.toNat)).toArray⟩]):=by
 refine Zab Tryz.func39 rfl Tryz.ntmps39 rfl ?_
 repeat' first|refine Kz ?_|intro _
 refine Ks rfl (Zpn hn hd) ?_
 repeat' first|refine Kz ?_|intro _
 exact Kv
theorem Zs7 {n d:Int} (hn:-1000000000000≤n∧n≤1000000000000) (hd:1≤d∧d≤1000000000000):CQ Tryz.prog w0 84 [.int .i64 n,.int .i64 d] As (.agg #[.string ⟨(tN (mkRat n d.toNat)).toArray⟩,.string ⟨(tD (mkRat n d.toNat)).toArray⟩]):=by
 refine Zab Tryz.func84 rfl Tryz.ntmps84 rfl ?_
 repeat' first|refine Kz ?_|intro _
 refine Ks rfl (Zpn hn hd) ?_
 repeat' first|refine Kz ?_|intro _
 exact Kv
theorem Zbr {n:Int} (hn:-1000000000000≤n∧n≤1000000000000):CQ Tryz.prog w0 84 [.int .i64 n,.int .i64 1] As (.agg #[.string ⟨(tN ((n:Rat))).toArray⟩,.string ⟨(tD ((n:Rat))).toArray⟩]):=by
 have k:=Zs7 (w0:=w0) (As:=As) (n:=n) (d:=1) hn (by decide)
 rw [show ((1:Int).toNat)=1 from rfl,Rat.mkRat_one] at k
 exact k
theorem Zpp {n:Int} (hn:-1000000000000≤n∧n≤1000000000000):CallsS Tryz.prog w0 84 [.int .i64 n,.int .i64 1000000] As fun u Bs=>u=.agg #[.string ⟨(tN (mkRat n 1000000)).toArray⟩,.string ⟨(tD (mkRat n 1000000)).toArray⟩]∧Bs=As :=
 Zs7 (n:=n) (d:=1000000) hn (by decide)
theorem Zrl {r:Rat} (hr:Fit 600 r):CQ Tryz.prog w0 54 [.agg #[.string ⟨(tN (r)).toArray⟩,.string ⟨(tD (r)).toArray⟩]] As (.int .i64 0):=by
 refine Zab Tryz.func54 rfl Tryz.ntmps54 rfl ?_
 repeat' first|refine Kz ?_|intro _
 refine Ks rfl (Zaw hr) ?_
 repeat' first|refine Kz ?_|intro _
 exact Kv
theorem Zid {r s:Rat} (hr:Fit 600 r) (hs:Fit 600 s):CQ Tryz.prog w0 86 [.agg #[.string ⟨(tN (r)).toArray⟩,.string ⟨(tD (r)).toArray⟩],.agg #[.string ⟨(tN (s)).toArray⟩,.string ⟨(tD (s)).toArray⟩]] As (.bool (decide (r < s))):=by
 have hc:=@Zkr r s
 refine Zab Tryz.func86 rfl Tryz.ntmps86 rfl ?_
 repeat' first|refine Kz ?_|intro _
 refine Ks rfl (Zwr hr hs) ?_
 repeat' first|refine Kz ?_|intro _
 (refine Zac ?_)
 exact ⟨_,⟨congrArg Value.bool (decide_eq_decide.2 hc),rfl⟩,Zaa⟩
set_option maxHeartbeats 1000000 in
theorem Zrj {x l h:Rat} (hx:Fit 600 x) (hl:Fit 600 l) (hh:Fit 600 h) (hlh:¬ 0 < ordQ l h):CQ Tryz.prog w0 83 [.agg #[.string ⟨(tN (x)).toArray⟩,.string ⟨(tD (x)).toArray⟩],.agg #[.string ⟨(tN (l)).toArray⟩,.string ⟨(tD (l)).toArray⟩],.agg #[.string ⟨(tN (h)).toArray⟩,.string ⟨(tD (h)).toArray⟩]] As (.tuple #[.agg #[.string ⟨(tN (if ordQ x l < 0 then l else if 0 < ordQ x h then h else x)).toArray⟩,.string ⟨(tD (if ordQ x l < 0 then l else if 0 < ordQ x h then h else x)).toArray⟩],.int .i64 0]):=by
 refine Zab Tryz.func83 rfl Tryz.ntmps83 rfl ?_
 repeat' first|refine Kz ?_|intro _
 refine Ks rfl (Zaw hx) ?_
 repeat' first|refine Kz ?_|intro _
 refine Ks rfl (Zaw hl) ?_
 repeat' first|refine Kz ?_|intro _
 refine Ks rfl (Zaw hh) ?_
 repeat' first|refine Kz ?_|intro _
 rename_i b3 b4 b5 b6
 refine Zaj [.cl b4 [.string ⟨(tN (l)).toArray⟩,.string ⟨(tD (l)).toArray⟩] 72,.cl b5 [.string ⟨(tN (h)).toArray⟩,.string ⟨(tD (h)).toArray⟩] 72] [] (.take 0 (.take 2 (.all [(1,.all [(3,.all [(4,.take 5 (.done))])])]))) ?_
 repeat' first|refine Kf ?_|intro _|constructor
 refine T1.callv rfl rfl rfl rfl rfl (Zbn hl) ?_
 rintro _ _ ⟨p1,c1,p2,c2,rfl,rfl⟩
 repeat' first|refine Kf ?_|intro _|constructor
 refine T1.callv rfl rfl rfl rfl rfl (Zbn hh) ?_
 rintro _ _ ⟨p3,c3,p4,c4,rfl,rfl⟩
 repeat' first|refine Kf ?_|intro _|constructor
 refine Ku rfl (Ze3 (v1:=.slice p1 (qud l.num.natAbs).length c1) (v2:=.slice p2 (qud (l.den:Int).natAbs).length c2) (v3:=.slice p3 (qud h.num.natAbs).length c3) (v4:=.slice p4 (qud (h.den:Int).natAbs).length c4) hl hh) ?_
 repeat' first|refine Kf ?_|intro _|constructor
 refine Zaj [.cl b3 [.string ⟨(tN (x)).toArray⟩,.string ⟨(tD (x)).toArray⟩] 72,.cl b4 [.string ⟨(tN (l)).toArray⟩,.string ⟨(tD (l)).toArray⟩] 72] [] (.take 0 (.take 2 (.all [(1,.all [(3,.all [(4,.take 5 (.done))])])]))) ?_
 repeat' first|refine Kf ?_|intro _|constructor
 refine T1.callv rfl rfl rfl rfl rfl (Zbn hx) ?_
 rintro _ _ ⟨p5,c5,p6,c6,rfl,rfl⟩
 repeat' first|refine Kf ?_|intro _|constructor
 refine T1.callv rfl rfl rfl rfl rfl (Zbn hl) ?_
 rintro _ _ ⟨p7,c7,p8,c8,rfl,rfl⟩
 repeat' first|refine Kf ?_|intro _|constructor
 refine Ku rfl (Ze3 (v1:=.slice p5 (qud x.num.natAbs).length c5) (v2:=.slice p6 (qud (x.den:Int).natAbs).length c6) (v3:=.slice p7 (qud l.num.natAbs).length c7) (v4:=.slice p8 (qud (l.den:Int).natAbs).length c8) hx hl) ?_
 by_cases h1:ordQ x l < 0
 ·rw [if_pos h1]
  repeat' first|refine Kf ?_|intro _|constructor
  exact Kv
 rw [if_neg h1]
 repeat' first|refine Kf ?_|intro _|constructor
 refine Zaj [.cl b3 [.string ⟨(tN (x)).toArray⟩,.string ⟨(tD (x)).toArray⟩] 72,.cl b5 [.string ⟨(tN (h)).toArray⟩,.string ⟨(tD (h)).toArray⟩] 72] [] (.take 0 (.take 2 (.all [(1,.all [(3,.all [(4,.take 5 (.done))])])]))) ?_
 repeat' first|refine Kf ?_|intro _|constructor
 refine T1.callv rfl rfl rfl rfl rfl (Zbn hx) ?_
 rintro _ _ ⟨p9,c9,p10,c10,rfl,rfl⟩
 repeat' first|refine Kf ?_|intro _|constructor
 refine T1.callv rfl rfl rfl rfl rfl (Zbn hh) ?_
 rintro _ _ ⟨p11,c11,p12,c12,rfl,rfl⟩
 repeat' first|refine Kf ?_|intro _|constructor
 refine Ku rfl (Ze3 (v1:=.slice p9 (qud x.num.natAbs).length c9) (v2:=.slice p10 (qud (x.den:Int).natAbs).length c10) (v3:=.slice p11 (qud h.num.natAbs).length c11) (v4:=.slice p12 (qud (h.den:Int).natAbs).length c12) hx hh) ?_
 by_cases h2:0 < ordQ x h
 ·rw [if_pos h2]
  repeat' first|refine Kf ?_|intro _|constructor
  exact Kv
 rw [if_neg h2]
 repeat' first|refine Kf ?_|intro _|constructor
 exact Kv
theorem Zg9 {x:Rat} (hx:Fit 600 x):CQ Tryz.prog w0 55 [.agg #[.string ⟨(tN (x)).toArray⟩,.string ⟨(tD (x)).toArray⟩]] As (.agg #[.string ⟨(tN (clampQ x)).toArray⟩,.string ⟨(tD (clampQ x)).toArray⟩]):=by
 have f0:Fit 600 ((0:Int):Rat):=(Zap (z:=0) (k:=1) (by decide) (by decide)).mono (by decide)
 have f1:Fit 600 ((1:Int):Rat):=(Zap (z:=1) (k:=1) (by decide) (by decide)).mono (by decide)
 have hno:¬ 0 < ordQ ((0:Int):Rat) ((1:Int):Rat):=by decide +kernel
 have e:=@Zws x
 refine Zab Tryz.func55 rfl Tryz.ntmps55 rfl ?_
 repeat' first|refine Kz ?_|intro _
 rename_i b1 b2
 refine Tri.mid (fun e' As'=>∃ b3,e'=[(2,.pointer (some ⟨b2,0,none⟩)),(3,.pointer (some ⟨b3,0,none⟩))]∧As'=.cl b3 [.string ⟨(tN (clampQ x)).toArray⟩,.string ⟨(tD (clampQ x)).toArray⟩] 72::.cl b2 [.string ⟨#[]⟩,.string ⟨#[]⟩] 72::As) ?_ ?_
 ·refine Zaj [.cl b1 [.string ⟨(tN (x)).toArray⟩,.string ⟨(tD (x)).toArray⟩] 72] [] (.take 0 (.all [(1,.all [(2,.all [(3,.take 4 (.take 5 (.take 6 (.all [(7,.all [(8,.take 9 (.done))])])))),(7,.all [(3,.take 4 (.take 5 (.take 6 (.all [(8,.take 9 (.done))]))))])]),(7,.all [(2,.all [(3,.take 4 (.take 5 (.take 6 (.all [(8,.take 9 (.done))]))))])])]),(7,.all [(1,.all [(2,.all [(3,.take 4 (.take 5 (.take 6 (.all [(8,.take 9 (.done))]))))])])])])) ?_
  repeat' first|refine Kf ?_|intro _|constructor
  repeat' (first|(refine T1.callv rfl rfl rfl rfl rfl (Zbr (n:=0) (by decide)) ?_;rintro _ _ ⟨rfl,rfl⟩;(repeat' first|refine Kf ?_|intro _|constructor))|(refine T1.callv rfl rfl rfl rfl rfl (Zbr (n:=1) (by decide)) ?_;rintro _ _ ⟨rfl,rfl⟩;(repeat' first|refine Kf ?_|intro _|constructor))|(refine T1.callv rfl rfl rfl rfl rfl (Zrj hx f0 f1 hno) ?_;rw [e];rintro _ _ ⟨rfl,rfl⟩;(repeat' first|refine Kf ?_|intro _|constructor)))
  all_goals exact Post.cut _ _ ⟨_,rfl,rfl⟩ Zae Zaa
 rintro _ _ ⟨b3,rfl,rfl⟩
 repeat' first|refine Kz ?_|intro _
 exact Kv
theorem Zmj {v1 v2:Value} {z:Rat} [RdIn As v1 Nat (cN .i64) (qud z.num.natAbs)] [RdIn As v2 Nat (cN .i64) (qud (z.den:Int).natAbs)] (hz:Fit 900 z) :
  CallsS Tryz.prog w0 62 [.agg #[.bool (decide (z.num < 0)),v1,.bool (decide ((z.den:Int) < 0)),v2]] As (PlainR As ((z+mkRat 1 2).floor)):=by
 refine Zad v1 fun p1 c1 e1=>Zad v2 fun p2 c2 e2=>?_
 subst e1 e2
 have h0:=den_mul z (mkRat 1 2)
 have hq:=Zta z (mkRat 1 2)
 have l3:(qud (mkRat 1 2).num.natAbs).length≤5:=Zas (by decide +kernel)
 have l4:(qud ((mkRat 1 2).den:Int).natAbs).length≤5:=Zas (by decide +kernel)
 obtain ⟨l1,l2⟩:=hz.qud
 rw [← Int.natAbs_natCast z.den] at l2
 obtain ⟨l5,l6⟩:=(hz.add (Zdk (z:=1) (d:=2) (k:=1) (by decide) (by decide) (by decide) (by decide))).qud
 rw [← Int.natAbs_natCast (z+mkRat 1 2).den] at l6
 refine Zab Tryz.func62 rfl Tryz.ntmps62 rfl ?_
 repeat' first|refine Kz ?_|intro _
 rename_i b1 b2
 refine Zaj [.cl b1 [.bool (decide (z.num < 0)),.slice p1 (qud z.num.natAbs).length c1,.bool (decide ((z.den:Int) < 0)),.slice p2 (qud (z.den:Int).natAbs).length c2] 101] [] (.take 0 (.all [(1,.all [(2,.all [(3,.all [(4,.done)])])])])) ?_
 repeat' first|refine Kf ?_|intro _|constructor
 refine T1.callv rfl rfl rfl rfl rfl (Q.Z1f (x:=1) (y:=2) (by decide) (by decide)) ?_
 rw [show ((2:Int).toNat)=2 from rfl]
 generalize mkRat 1 2=s at *
 rintro _ _ ⟨p3,c3,p4,c4,rfl,rfl⟩
 repeat' first|refine Kf ?_|intro _|constructor
 refine T1.callv rfl rfl rfl rfl rfl (Zkq (v1:=.slice p1 (qud z.num.natAbs).length c1) (v2:=.slice p2 (qud (z.den:Int).natAbs).length c2) (v3:=.slice p3 (qud s.num.natAbs).length c3) (v4:=.slice p4 (qud (s.den:Int).natAbs).length c4) (n1:=z.num) (d1:=(z.den:Int)) (n2:=s.num) (d2:=(s.den:Int)) h0 hq (by omega) (by omega) (by omega) (by omega)) ?_
 generalize z+s=Z at *
 rintro _ _ ⟨p5,c5,p6,c6,rfl,rfl⟩
 repeat' first|refine Kf ?_|intro _|constructor
 refine T1.callv rfl rfl rfl rfl rfl (Ztw (v1:=.slice p5 (qud Z.num.natAbs).length c5) (v2:=.slice p6 (qud (Z.den:Int).natAbs).length c6) (n1:=Z.num) (d1:=(Z.den:Int)) (Int.ne_of_gt (den_pos Z)) (by omega) (by omega)) ?_
 rw [← Rat.floor_def]
 rintro _ _ ⟨p7,c7,rfl,rfl⟩
 repeat' first|refine Kf ?_|intro _|constructor
 (refine Zac ?_)
 exact ⟨_,⟨p7,c7,rfl,rfl⟩,Zaa⟩
theorem Zs9 {r:Rat} (hr:Fit 500 r) (hb:0≤Q.nearQ r 10000∧Q.nearQ r 10000≤10000):CQ Tryz.prog w0 40 [.agg #[.string ⟨(tN (r)).toArray⟩,.string ⟨(tD (r)).toArray⟩],.int .i64 10000] As (.tuple #[.int .i64 (Q.nearQ r 10000),.int .i64 0]):=by
 have hr6:Fit 600 r:=hr.mono (by decide)
 obtain ⟨l1,l2⟩:=Zbb hr6
 have e:Q.nearQ r 10000=(r * mkRat 10000 1+mkRat 1 2).floor:=by rw [show mkRat 10000 1=((10000:Nat):Rat) by decide +kernel];exact Zph r
 have fk:Fit 5 (mkRat 10000 1):=Zdk (by decide) (by decide) (by decide) (by decide)
 have fm:Fit 900 (r * mkRat 10000 1):=(hr.mul fk).mono (by decide)
 have h0:=den_mul r (mkRat 10000 1)
 have hq:=Zxq r (mkRat 10000 1)
 obtain ⟨l3,l4⟩:=Zbb (fk.mono (show 5≤600 by decide))
 rw [e] at hb ⊢
 have l7:(qud (r * mkRat 10000 1+mkRat 1 2).floor.natAbs).length≤5:=Zas (by omega)
 refine Zab Tryz.func40 rfl Tryz.ntmps40 rfl ?_
 repeat' first|refine Kz ?_|intro _
 refine Ks rfl (Zaw hr6) ?_
 repeat' first|refine Kz ?_|intro _
 refine TL.callv rfl rfl rfl rfl (Zbn hr6) ?_
 rintro _ _ ⟨p1,c1,p2,c2,rfl,rfl⟩
 repeat' first|refine Kz ?_|intro _
 refine TL.callv rfl rfl rfl rfl (Q.Z1f (x:=10000) (y:=1) (by decide) (by decide)) ?_
 rw [show ((1:Int).toNat)=1 from rfl]
 generalize mkRat 10000 1=s at *
 rintro _ _ ⟨p3,c3,p4,c4,rfl,rfl⟩
 repeat' first|refine Kz ?_|intro _
 refine TL.callv rfl rfl rfl rfl (Zlw (v1:=.slice p1 (qud r.num.natAbs).length c1) (v2:=.slice p2 (qud (r.den:Int).natAbs).length c2) (v3:=.slice p3 (qud s.num.natAbs).length c3) (v4:=.slice p4 (qud (s.den:Int).natAbs).length c4) (n1:=r.num) (d1:=(r.den:Int)) (n2:=s.num) (d2:=(s.den:Int)) h0 hq (by omega) (by omega) (by omega) (by omega)) ?_
 generalize r * s=Z at *
 rintro _ _ ⟨p5,c5,p6,c6,rfl,rfl⟩
 repeat' first|refine Kz ?_|intro _
 refine TL.callv rfl rfl rfl rfl (Zmj (v1:=.slice p5 (qud Z.num.natAbs).length c5) (v2:=.slice p6 (qud (Z.den:Int).natAbs).length c6) (z:=Z) fm) ?_
 generalize (Z+mkRat 1 2).floor=N at *
 rintro _ _ ⟨p7,c7,rfl,rfl⟩
 repeat' first|refine Kz ?_|intro _
 refine TL.callv rfl rfl rfl rfl (Zmo (v:=.slice p7 (qud N.natAbs).length c7) (x:=N) (by omega)) ?_
 rw [if_pos (by omega),if_pos (by omega)]
 rintro _ _ ⟨rfl,rfl⟩
 repeat' first|refine Kz ?_|intro _
 exact Kv
end Go.Proofs.YtoednejlfbfciaaGreatDoor
