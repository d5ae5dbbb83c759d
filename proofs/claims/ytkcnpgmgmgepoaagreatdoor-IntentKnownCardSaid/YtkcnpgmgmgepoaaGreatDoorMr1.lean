/- Walks: the reference of the chapter on meshes: its small functions. -/
import Derived.Test.YtkcnpgmgmgepoaaGreatDoorMa9
import Derived.Test.YtkcnpgmgmgepoaaGreatDoorPl
import Derived.Test.YtkcnpgmgmgepoaaGreatDoorSxB
import Derived.Test.YtkcnpgmgmgepoaaGreatDoorVa1
import Derived.Test.YtkcnpgmgmgepoaaGreatDoorMq1
import Derived.Test.YtkcnpgmgmgepoaaGreatDoorSxS
namespace Go.Proofs.YtkcnpgmgmgepoaaGreatDoor
open Go Go.Sx
variable {w0:World} {As:List Ent} {pv fv:Value} {pts fcs:List V3}
theorem listR_ok {a b:Value} {xs ys:List V3} [RdIn As a V3 cV3 xs] [RdIn As b V3 cV3 ys] (hl:xs.length≤1000000000) :
  CallsS Tryz.prog w0 67 [a,b] As fun v Bs=>v=.bool (decide (xs=ys))∧Bs=As:=by
 refine CallsS.of_tri Tryz.func67 rfl Tryz.ntmps67 rfl ?_
 (repeat' first|(refine Ka ?_;first|refine Kb ?_|(refine Kc ?_;intro _))|refine Kd ?_|refine Kh ?_)
 ((show Tri _ _ _ (.cond _ _ _) _ _ _;first|refine Tri.condP rfl (fun hc=>?_) (fun hc=>?_)|refine Tri.condN rfl (fun hc=>?_) (fun hc=>?_)))
 ·(repeat' first|(refine Ka ?_;first|refine Kb ?_|(refine Kc ?_;intro _))|refine Kd ?_|refine Kh ?_)
  (refine Post.ra ?_)
  exact ⟨_,⟨by rw [decide_eq_false (fun h=>by subst h;omega)],rfl⟩,by (exact Ents.au)⟩
 ·(repeat' first|(refine Ka ?_;first|refine Kb ?_|(refine Kc ?_;intro _))|refine Kd ?_|refine Kh ?_)
  refine Tri.loop (ι:=Nat) (fun k=>k≤xs.length∧xs.take k=ys.take k) (fun k=>xs.length - k)
   (fun k=>[(0,a),(1,b),(5,.int .i64 k)]) (fun _=>As) 0 ⟨by omega,by simp⟩ (by (exact Sub.au)) (by (exact Ents.au)) ?_
  intro k ⟨hk,he⟩
  (repeat' first|(refine Ka ?_;first|refine Kb ?_|(refine Kc ?_;intro _))|refine Kd ?_|refine Kh ?_)
  ((show Tri _ _ _ (.cond _ _ _) _ _ _;first|refine Tri.condP rfl (fun hc=>?_) (fun hc=>?_)|refine Tri.condN rfl (fun hc=>?_) (fun hc=>?_)))
  ·obtain ⟨p,hp⟩:∃ p,xs[k]?=some p:=⟨_,List.getElem?_eq_getElem (by omega)⟩
   obtain ⟨q,hq⟩:∃ p,ys[k]?=some p:=⟨_,List.getElem?_eq_getElem (by omega)⟩
   obtain ⟨px,py,pz⟩:=p
   obtain ⟨qx,qy,qz⟩:=q
   (repeat' first|(refine Ka ?_;first|refine Kb ?_|(refine Kc ?_;intro _))|refine Kd ?_|refine Kh ?_)
   by_cases hpq:(⟨px,py,pz⟩:V3)=⟨qx,qy,qz⟩
   ·refine Tri.dr (.take 0 (.take 1 (.take 2 (.take 3 (.take 4 (.take 5 (.take 6 (.take 7 (.take 8 (.done)))))))))) ?_
    (repeat' first|(refine Ka ?_;first|refine Kb ?_|(refine Kc ?_;intro _))|refine Kd ?_|(refine Ki ?_;refine Kj ?_)|exact Kk|refine Kl ?_ ?_|(refine Km ?_;first|refine Kn ?_|(refine Ko ?_;intro _))|(refine Kp ?_;first|refine Kq ?_|refine Kr ?_)|refine Kh ?_)
    refine Post.round (k+1) ⟨by omega,?_⟩ (by omega) (by (exact Sub.au)) (by (exact Ents.au))
    rw [List.take_add_one,List.take_add_one,hp,hq,he,hpq]
   ·refine Tri.dr (.take 0 (.take 1 (.take 2 (.take 3 (.take 4 (.take 5 (.take 6 (.take 7 (.take 8 (.done)))))))))) ?_
    (repeat' first|(refine Ka ?_;first|refine Kb ?_|(refine Kc ?_;intro _))|refine Kd ?_|(refine Ki ?_;refine Kj ?_)|exact Kk|refine Kl ?_ ?_|(refine Km ?_;first|refine Kn ?_|(refine Ko ?_;intro _))|(refine Kp ?_;first|refine Kq ?_|refine Kr ?_)|refine Kh ?_)
    (refine Post.ra ?_)
    exact ⟨_,⟨by rw [decide_eq_false (fun h=>by subst h;rw [hp] at hq;exact hpq (Option.some.inj hq))],rfl⟩,by (exact Ents.au)⟩
  ·(repeat' first|(refine Ka ?_;first|refine Kb ?_|(refine Kc ?_;intro _))|refine Kd ?_|refine Kh ?_)
   (refine Post.ra ?_)
   have hxy:xs=ys:=by
        rw [show k=xs.length from (by omega),List.take_length,show xs.length=ys.length from (by omega),List.take_length] at he
        exact he
   exact ⟨_,⟨by rw [decide_eq_true hxy],rfl⟩,by (exact Ents.au)⟩
theorem sameR_ok {pv' fv':Value} {pts' fcs':List V3} [RdIn As pv V3 cV3 pts] [RdIn As fv V3 cV3 fcs] [RdIn As pv' V3 cV3 pts'] [RdIn As fv' V3 cV3 fcs'] (hl:pts.length≤1000000000) (hlf:fcs.length≤1000000000) :
  CallsS Tryz.prog w0 18 [.agg #[pv,fv],.agg #[pv',fv']] As fun v Bs=>v=.bool (decide (pts=pts')&&decide (fcs=fcs'))∧Bs=As:=by
 refine CallsS.of_tri Tryz.func18 rfl Tryz.ntmps18 rfl ?_
 (repeat' first|(refine Ka ?_;first|refine Kb ?_|(refine Kc ?_;intro _))|refine Kd ?_|refine Kh ?_)
 refine Kt rfl rfl rfl (listR_ok hl) ?_
 by_cases h1:pts=pts'
 ·rw [decide_eq_true h1]
  (repeat' first|(refine Ka ?_;first|refine Kb ?_|(refine Kc ?_;intro _))|refine Kd ?_|refine Kh ?_)
  refine Kt rfl rfl rfl (listR_ok hlf) ?_
  (repeat' first|(refine Ka ?_;first|refine Kb ?_|(refine Kc ?_;intro _))|refine Kd ?_|refine Kh ?_)
  (refine Post.ra ?_)
  exact ⟨_,⟨by simp,rfl⟩,by (exact Ents.au)⟩
 ·rw [decide_eq_false h1]
  (repeat' first|(refine Ka ?_;first|refine Kb ?_|(refine Kc ?_;intro _))|refine Kd ?_|refine Kh ?_)
  (refine Post.ra ?_)
  exact ⟨_,⟨by simp,rfl⟩,by (exact Ents.au)⟩
end Go.Proofs.YtkcnpgmgmgepoaaGreatDoor
namespace Go.Proofs.YtkcnpgmgmgepoaaGreatDoor
open Go Go.Sx
variable {w0:World} {As:List Ent} {pv fv:Value} {pts fcs:List V3}
def shapesM (pts fcs:List V3):Nat × Nat :=
 if pts.length < 4∨300 < pts.length then (1,0)
 else if fcs.length < 4∨600 < fcs.length then (1,1)
 else firstOf [farF pts,wrongF pts.length fcs,flatF pts fcs] 2
end Go.Proofs.YtkcnpgmgmgepoaaGreatDoor
namespace Go.Proofs.YtkcnpgmgmgepoaaGreatDoor
open Go Go.Sx
variable {w0:World} {As:List Ent} {pv fv:Value} {pts fcs:List V3}
end Go.Proofs.YtkcnpgmgmgepoaaGreatDoor
namespace Go.Proofs.YtkcnpgmgmgepoaaGreatDoor
open Go Go.Sx
variable {w0:World} {As:List Ent} {pv fv:Value} {pts fcs:List V3}
end Go.Proofs.YtkcnpgmgmgepoaaGreatDoor
namespace Go.Proofs.YtkcnpgmgmgepoaaGreatDoor
open Go Go.Sx
variable {w0:World} {As:List Ent} {pv fv:Value} {pts fcs:List V3}
def MeshV (As:List Ent) (r:List V3 × List V3) (v:Value) (Bs:List Ent):Prop:=∃ pv fv,v=.agg #[pv,fv]∧pv.oneCell'=true∧fv.oneCell'=true∧Bs=.ow cV3 32 pv r.1::.ow cV3 32 fv r.2::As
end Go.Proofs.YtkcnpgmgmgepoaaGreatDoor
namespace Go.Proofs.YtkcnpgmgmgepoaaGreatDoor
open Go Go.Sx
variable {w0:World} {As:List Ent} {pv fv:Value} {pts fcs:List V3}
def grownV (b off n cap k:Nat) (o:Option (Option Addr × Nat)):Value:=match o with
 | none=>.slice (some ⟨b,off,none⟩) (n+k) cap
 | some (q,cp)=>.slice q (n+k) cp
def grownE (b off cap:Nat) (xs:List V3) (k:Nat) (zs:List V3) (o:Option (Option Addr × Nat)) (R:List Ent):List Ent:=match o with
 | none=>.ow cV3 32 (.slice (some ⟨b,off,none⟩) (xs.length+k) cap) (xs++zs)::R
 | some (q,cp)=>.ow cV3 32 (.slice q (xs.length+k) cp) (xs++zs)::.ow cV3 32 (.slice (some ⟨b,off,none⟩) xs.length cap) xs::R
def BendR (As:List Ent) (what:Nat) (pts fcs:List V3) (v:Value) (Bs:List Ent):Prop:=∃ pv fv P F,v=.agg #[pv,fv]∧pv.oneCell'=true∧fv.oneCell'=true∧BendOk what pts fcs P F∧Bs=.ow cV3 32 pv P::.ow cV3 32 fv F::As
end Go.Proofs.YtkcnpgmgmgepoaaGreatDoor
namespace Go.Proofs.YtkcnpgmgmgepoaaGreatDoor
open Go Go.Sx
variable {w0:World} {As:List Ent}
end Go.Proofs.YtkcnpgmgmgepoaaGreatDoor
namespace Go.Proofs.YtkcnpgmgmgepoaaGreatDoor
open Go Go.Sx
variable {w0:World} {As:List Ent} {pv fv:Value} {pts fcs:List V3}
structure DraftA where
 kd:Int
 sz:Int
 a0:Int
 a1:Int
 a2:Int
 ov:Value
 off:List Int
 tn:Bool
def DraftA.ok (d:DraftA):Prop:=(0≤d.kd∧d.kd≤255)∧(0≤d.sz∧d.sz≤255)∧(-32768≤d.a0∧d.a0≤32767)∧(-32768≤d.a1∧d.a1≤32767)∧(-32768≤d.a2∧d.a2≤32767)∧(∀ x∈d.off,-128≤x∧x≤127)∧d.off.length≤9223372036854775807
def DraftA.cells (d:DraftA):List Value:=[.int .u8 d.kd,.int .u8 d.sz,.int .i16 d.a0,.int .i16 d.a1,.int .i16 d.a2,d.ov,.bool d.tn]
def DraftA.mesh (d:DraftA):List V3 × List V3:=draftM (d.kd % 4).toNat (1000+100 * d.sz) ⟨d.a0,d.a1,d.a2⟩ d.off d.tn
structure BendA where
 wh:Int
 ta:Int
 to_:Int
 n:Int
def BendA.ok (b:BendA):Prop:=(0≤b.wh∧b.wh≤255)∧(0≤b.ta∧b.ta≤255)∧(0≤b.to_∧b.to_≤255)
def MeshesR (As:List Ent) (d:DraftA) (pts fcs:List V3) (v:Value) (Bs:List Ent):Prop:=∃ p0 f0 p1 f1 p2 f2 p3 f3,∃ P1 F1 P2 F2:List V3,v=.agg #[p0,f0,p1,f1,p2,f2,p3,f3] ∧
 p0.oneCell'=true∧f0.oneCell'=true∧p1.oneCell'=true∧f1.oneCell'=true∧p2.oneCell'=true∧f2.oneCell'=true∧p3.oneCell'=true∧f3.oneCell'=true ∧
 P1.length≤80∧F1.length≤80∧P2.length≤80∧F2.length≤80 ∧
 Bs=.ow cV3 32 p0 d.mesh.1::.ow cV3 32 f0 d.mesh.2::.ow cV3 32 p1 P1::.ow cV3 32 f1 F1::.ow cV3 32 p2 P2::.ow cV3 32 f2 F2::.ft (rd cV3 p3 (pts.take (min pts.length 30)))::.ft (rd cV3 f3 (fcs.take (min fcs.length 30)))::As
end Go.Proofs.YtkcnpgmgmgepoaaGreatDoor
namespace Go.Sx
end Go.Sx
namespace Go.Proofs.YtkcnpgmgmgepoaaGreatDoor
open Go Go.Sx
variable {w0:World} {As:List Ent} {pv fv:Value} {pts fcs:List V3}
end Go.Proofs.YtkcnpgmgmgepoaaGreatDoor
namespace Go.Proofs.YtkcnpgmgmgepoaaGreatDoor
open Go Go.Sx
variable {w0:World} {As:List Ent} {pv fv:Value} {pts fcs:List V3}
instance one01:EncV cNv (.int .i64 (0+1)) 1:=⟨rfl⟩
theorem DraftA.good (d:DraftA) (h:d.ok):okM d.mesh.1 d.mesh.2:=by
 obtain ⟨h1,h2,h3,h4,h5,_⟩:=h
 exact draftM_ok (by omega) (by omega) (by omega) ⟨by simp only;omega,by simp only;omega,by simp only;omega,by simp only;omega,by simp only;omega,by simp only;omega⟩ _
end Go.Proofs.YtkcnpgmgmgepoaaGreatDoor
