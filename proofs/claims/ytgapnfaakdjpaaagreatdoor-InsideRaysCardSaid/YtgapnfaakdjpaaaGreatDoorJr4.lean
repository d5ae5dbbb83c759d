/- Walks: InsideSides. -/
import Derived.Test.YtgapnfaakdjpaaaGreatDoorJr3
import Derived.Test.YtgapnfaakdjpaaaGreatDoorJr1
import Derived.Test.YtgapnfaakdjpaaaGreatDoorIj1
import Derived.Test.YtgapnfaakdjpaaaGreatDoorMr5
namespace Go.Proofs.YtgapnfaakdjpaaaGreatDoor
open Go Go.Sx
variable {w0:World} {As:List Ent} {pv fv:Value} {pts fcs:List V3}
def SpoiltR (As:List Ent) (v:Value) (Bs:List Ent):Prop:=∃ pv fv P F,v=.agg #[pv,fv]∧Bs=.ft (rd cV3 pv P)::.ft (rd cV3 fv F)::As
theorem spoilt_ok {n:Int} (hn:0≤n∧n≤255) (h1:1≤pts.length) (h2:1≤fcs.length) (h3:pts.length≤300) [FtIn As pv V3 cV3 pts] [FtIn As fv V3 cV3 fcs] :
    CallsS Tryz.prog w0 11 [.agg #[pv,fv],.int .u8 n] As (SpoiltR As):=by
  refine CallsS.rdSl pv fun p0 c0 e0=>CallsS.rdSl fv fun p1 c1 e1=>?_
  subst e0 e1
  refine CallsS.of_tri Tryz.func11 rfl Tryz.ntmps11 rfl ?_
  (repeat' first|(refine Ka ?_;first|refine Kb ?_|(refine Kc ?_;intro _))|refine Kd ?_|refine Kh ?_)
  by_cases k0:n % 8=0
  · (repeat' first|(refine Ka ?_;first|refine Kb ?_|(refine Kc ?_;intro _))|refine Kd ?_|refine Kh ?_)
    refine TL.rdSl (c:=cV3) (xs:=(fcs.drop 1).take (fcs.length - 1)) (subV 3 (.slice p1 fcs.length c1) 1 fcs.length) fun p2 c2 e2=>?_
    rw [e2]
    (repeat' first|(refine Ka ?_;first|refine Kb ?_|(refine Kc ?_;intro _))|refine Kd ?_|refine Kh ?_)
    (refine Post.ra ?_)
    exact ⟨_,⟨.slice p0 pts.length c0,_,pts,(fcs.drop 1).take (fcs.length - 1),rfl,rfl⟩,Ents.trans (Ents.dup (v:=.slice p0 pts.length c0) (cd:=cV3) (xs:=pts)) (by (exact Ents.au))⟩
  · by_cases k1:n % 8=1
    · (repeat' first|(refine Ka ?_;first|refine Kb ?_|(refine Kc ?_;intro _))|refine Kd ?_|refine Kh ?_)
      refine TL.rdSl (c:=cV3) (xs:=(pts.drop 0).take (pts.length - 1 - 0)) (subV 3 (.slice p0 pts.length c0) 0 (pts.length - 1)) fun p2 c2 e2=>?_
      rw [e2]
      (repeat' first|(refine Ka ?_;first|refine Kb ?_|(refine Kc ?_;intro _))|refine Kd ?_|refine Kh ?_)
      (refine Post.ra ?_)
      exact ⟨_,⟨_,.slice p1 fcs.length c1,(pts.drop 0).take (pts.length - 1 - 0),fcs,rfl,rfl⟩,Ents.trans (Ents.dup (v:=.slice p1 fcs.length c1) (cd:=cV3) (xs:=fcs)) (by (exact Ents.au))⟩
    · (repeat' first|(refine Ka ?_;first|refine Kb ?_|(refine Kc ?_;intro _))|refine Kd ?_|refine Kh ?_)
      (refine Post.ra ?_)
      exact ⟨_,⟨.slice p0 pts.length c0,.slice p1 fcs.length c1,pts,fcs,rfl,rfl⟩,Ents.trans (Ents.dup (v:=.slice p1 fcs.length c1) (cd:=cV3) (xs:=fcs)) (Ents.trans (Ents.dup (v:=.slice p0 pts.length c0) (cd:=cV3) (xs:=pts)) (by (exact Ents.au)))⟩
theorem frz2 {T U:TypeId} {R:List Ent} {a b:Value} {xs ys:List V3}:Ents (.ow cV3 T a xs::.ow cV3 U b ys::R) (.ft (rd cV3 a xs)::.ft (rd cV3 b ys)::R) :=
  Ents.trans Ents.freeze (Ents.trans (Ents.perm (List.Perm.swap _ _ _)) (Ents.trans Ents.freeze (Ents.perm (List.Perm.swap _ _ _))))
end Go.Proofs.YtgapnfaakdjpaaaGreatDoor
