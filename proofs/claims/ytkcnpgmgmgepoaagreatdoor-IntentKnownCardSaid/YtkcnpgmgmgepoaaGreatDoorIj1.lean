/- Walks: the law's helpers on points and meshes. -/
import Derived.Test.YtkcnpgmgmgepoaaGreatDoorIxa
import Derived.Test.YtkcnpgmgmgepoaaGreatDoorPl
import Derived.Test.YtkcnpgmgmgepoaaGreatDoorCd1
import Derived.Test.YtkcnpgmgmgepoaaGreatDoorSxS
import Derived.Test.YtkcnpgmgmgepoaaGreatDoorIm1
import Derived.Test.YtkcnpgmgmgepoaaGreatDoorJr1
import Derived.Test.YtkcnpgmgmgepoaaGreatDoorJq1
import Derived.Test.YtkcnpgmgmgepoaaGreatDoorMr1
namespace Go.Sx
open Go
theorem qI_mk (n d:Int):mkRat (if d < 0 then -n else n) d.natAbs=qI n d:=rfl
end Go.Sx
namespace Go.Proofs.YtkcnpgmgmgepoaaGreatDoor
open Go Go.Sx
variable {w0:World} {As:List Ent} {pv fv:Value} {pts fcs:List V3}
instance:TwoS Tryz.prog 67:=⟨⟨_,_,_,_,(inferInstance:UL Tryz.prog 67 _).h,by decide,by decide,rfl,rfl,rfl,rfl,(inferInstance:UL Tryz.prog 37 .string).h,(inferInstance:UL Tryz.prog 37 .string).h⟩,by kernel_rfl,by kernel_rfl⟩
theorem quickS_ok {x y:Int} (hx:-9223372036854775808≤x∧x≤9223372036854775807) (hy:-9223372036854775808≤y∧y≤9223372036854775807) (h0:y≠0) :
  CallsS Tryz.prog w0 101 [.int .i64 x,.int .i64 y] As (Q.RatP As (qI x y)):=by
 have lx:(qud x.natAbs).length≤5:=qud_len_lt (by omega)
 have ly:(qud y.natAbs).length≤5:=qud_len_lt (by omega)
 refine CallsS.of_tri Tryz.func101 rfl Tryz.ntmps101 rfl ?_
 (repeat' first|(refine Ka ?_;first|refine Kb ?_|(refine Kc ?_;intro _))|refine Kd ?_|refine Kh ?_)
 refine TL.call rfl rfl rfl (integerR_ok (n:=x) hx.1 hx.2) ?_
 rintro _ _ ⟨p1,c1,rfl,rfl⟩
 (repeat' first|(refine Ka ?_;first|refine Kb ?_|(refine Kc ?_;intro _))|refine Kd ?_|refine Kh ?_)
 refine TL.call rfl rfl rfl (integerR_ok (n:=y) hy.1 hy.2) ?_
 rintro _ _ ⟨p2,c2,rfl,rfl⟩
 (repeat' first|(refine Ka ?_;first|refine Kb ?_|(refine Kc ?_;intro _))|refine Kd ?_|refine Kh ?_)
 refine TL.callv rfl rfl rfl rfl (Q.lowest_ok (v:=.slice p1 (qud x.natAbs).length c1) (o:=.slice p2 (qud y.natAbs).length c2) (x:=x) (y:=y) h0 (by omega) (by omega)) ?_
 rw [qI_mk]
 rintro _ _ ⟨p3,c3,p4,c4,rfl,rfl⟩
 (repeat' first|(refine Ka ?_;first|refine Kb ?_|(refine Kc ?_;intro _))|refine Kd ?_|refine Kh ?_)
 (refine Post.ra ?_)
 exact ⟨_,⟨p3,c3,p4,c4,rfl,rfl⟩,by (exact Ents.au)⟩
theorem ofRef_ok {n d:Int} (hn:-9223372036854775807≤n∧n≤9223372036854775807) (hd:-9223372036854775807≤d∧d≤9223372036854775807) (h0:d≠0) :
  CallsS Tryz.prog w0 36 [.int .i64 n,.int .i64 d] As fun u Bs=>u=.tuple #[.agg #[.string ⟨(tN (qI n d)).toArray⟩,.string ⟨(tD (qI n d)).toArray⟩],.int .i64 0]∧Bs=As:=by
 have fq:=(fit_qI hn hd h0)
 have fq6:Fit 600 (qI n d):=fq.mono (by decide)
 obtain ⟨l1,l2⟩:=fq.qud
 have hot:=fq6.ot
 refine CallsS.of_tri Tryz.func36 rfl Tryz.ntmps36 rfl ?_
 (repeat' first|(refine Ka ?_;first|refine Kb ?_|(refine Kc ?_;intro _))|refine Kd ?_|refine Kh ?_)
 refine TL.callv rfl rfl rfl rfl (quickS_ok (x:=n) (y:=d) (by omega) (by omega) h0) ?_
 generalize qI n d=r at l1 l2 hot ⊢
 rintro _ _ ⟨p1,c1,p2,c2,rfl,rfl⟩
 have l3:(qud (r.den:Int).natAbs).length≤19:=by rw [Int.natAbs_natCast];exact l2
 (repeat' first|(refine Ka ?_;first|refine Kb ?_|(refine Kc ?_;intro _))|refine Kd ?_|refine Kh ?_)
 refine TL.callv rfl rfl rfl rfl (Q.outP_ok (v:=.slice p1 (qud r.num.natAbs).length c1) (o:=.slice p2 (qud (r.den:Int).natAbs).length c2) (r:=r) (by omega) (by omega)) ?_
 rw [hot]
 rintro _ _ ⟨rfl,rfl⟩
 (repeat' first|(refine Ka ?_;first|refine Kb ?_|(refine Kc ?_;intro _))|refine Kd ?_|refine Kh ?_)
 (refine Post.ra ?_)
 exact ⟨_,⟨rfl,rfl⟩,by (exact Ents.au)⟩
end Go.Proofs.YtkcnpgmgmgepoaaGreatDoor
namespace Go.Sx
open Go
theorem sideW_two {P F:List V3} {p:V3} (hg:Good P F) (hp:isFar p=false):(sideW P F p).2=0:=by
 have f1:(flawM P F).1=0:=okM_good.2 hg
 unfold sideW
 rw [f1,hp]
 simp only [ne_eq,not_true_eq_false,if_false,Bool.false_eq_true]
 (repeat' split)<;>rfl
end Go.Sx
namespace Go.Proofs.YtkcnpgmgmgepoaaGreatDoor
open Go Go.Sx
variable {w0:World} {As:List Ent} {pv fv:Value} {pts fcs:List V3}
end Go.Proofs.YtkcnpgmgmgepoaaGreatDoor
