/- Walks: the law's helpers on points and meshes. -/
import Derived.Test.YtbfgldlfciimiaaGreatDoorIx9
import Derived.Test.YtbfgldlfciimiaaGreatDoorPl
import Derived.Test.YtbfgldlfciimiaaGreatDoorCd1
import Derived.Test.YtbfgldlfciimiaaGreatDoorSxP
set_option maxHeartbeats 1000000
namespace Go.Sx
open Go
theorem Yg0 (n d:Int):mkRat (if d < 0 then -n else n) d.natAbs=qI n d:=rfl
end Go.Sx
namespace Go.Proofs.YtbfgldlfciimiaaGreatDoor
open Go Go.Sx
variable {w0:World} {As:List Ent} {pv fv:Value} {pts fcs:List V3}
instance:TwoS Tryz.prog 47:=⟨⟨_,_,_,_,(inferInstance:UL Tryz.prog 47 _).h,by decide,by decide,rfl,rfl,rfl,rfl,(inferInstance:UL Tryz.prog 45 .string).h,(inferInstance:UL Tryz.prog 45 .string).h⟩,by kernel_rfl,by kernel_rfl⟩
theorem Z2a {x y:Int} (hx:-9223372036854775808≤x∧x≤9223372036854775807) (hy:-9223372036854775808≤y∧y≤9223372036854775807) (h0:y≠0) :
  CallsS Tryz.prog w0 69 [.int .i64 x,.int .i64 y] As (Q.RatP As (qI x y)):=by
 have lx:(qud x.natAbs).length≤5:=Zbj (by omega)
 have ly:(qud y.natAbs).length≤5:=Zbj (by omega)
 refine Zab Tryz.func69 rfl Tryz.ntmps69 rfl ?_
 repeat' first|refine Kz ?_|intro _
 refine TL.call rfl rfl rfl (Zdp (n:=x) hx.1 hx.2) ?_
 rintro _ _ ⟨p1,c1,rfl,rfl⟩
 repeat' first|refine Kz ?_|intro _
 refine TL.call rfl rfl rfl (Zdp (n:=y) hy.1 hy.2) ?_
 rintro _ _ ⟨p2,c2,rfl,rfl⟩
 repeat' first|refine Kz ?_|intro _
 refine TL.callv rfl rfl rfl rfl (Q.Z29 (v:=.slice p1 (qud x.natAbs).length c1) (o:=.slice p2 (qud y.natAbs).length c2) (x:=x) (y:=y) h0 (by omega) (by omega)) ?_
 rw [Yg0]
 rintro _ _ ⟨p3,c3,p4,c4,rfl,rfl⟩
 repeat' first|refine Kz ?_|intro _
 (refine Zac ?_)
 exact ⟨_,⟨p3,c3,p4,c4,rfl,rfl⟩,Zaa⟩
theorem Z6y {n d:Int} (hn:-9223372036854775807≤n∧n≤9223372036854775807) (hd:-9223372036854775807≤d∧d≤9223372036854775807) (h0:d≠0) :
  CQ Tryz.prog w0 29 [.int .i64 n,.int .i64 d] As (.tuple #[.agg #[.string ⟨(tN (qI n d)).toArray⟩,.string ⟨(tD (qI n d)).toArray⟩],.int .i64 0]):=by
 have fq:=(Zmy hn hd h0)
 have fq6:Fit 600 (qI n d):=fq.mono (by decide)
 obtain ⟨l1,l2⟩:=fq.qud
 have hot:=fq6.ot
 refine Zab Tryz.func29 rfl Tryz.ntmps29 rfl ?_
 repeat' first|refine Kz ?_|intro _
 refine TL.callv rfl rfl rfl rfl (Z2a (x:=n) (y:=d) (by omega) (by omega) h0) ?_
 generalize qI n d=r at l1 l2 hot ⊢
 rintro _ _ ⟨p1,c1,p2,c2,rfl,rfl⟩
 have l3:(qud (r.den:Int).natAbs).length≤19:=by rw [Int.natAbs_natCast];exact l2
 repeat' first|refine Kz ?_|intro _
 refine TL.callv rfl rfl rfl rfl (Q.Yg2 (v:=.slice p1 (qud r.num.natAbs).length c1) (o:=.slice p2 (qud (r.den:Int).natAbs).length c2) (r:=r) (by omega) (by omega)) ?_
 rw [hot]
 rintro _ _ ⟨rfl,rfl⟩
 repeat' first|refine Kz ?_|intro _
 exact Kv
end Go.Proofs.YtbfgldlfciimiaaGreatDoor
