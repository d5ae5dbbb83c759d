/- Walks: the laws' drafts of meshes. Walks: the laws' changes of meshes. Walks: the examples of the chapter. Walks: the laws' meshes: a draft, two changes, an arbitrary one; MeshFlaws. -/
import Derived.Test.YtgapnfaakdjpaaaGreatDoorMr1
import Derived.Test.YtgapnfaakdjpaaaGreatDoorPl
import Derived.Test.YtgapnfaakdjpaaaGreatDoorSxB
import Derived.Test.YtgapnfaakdjpaaaGreatDoorMa9
namespace Go.Proofs.YtgapnfaakdjpaaaGreatDoor
open Go Go.Sx
variable {w0:World} {As:List Ent} {pv fv:Value} {pts fcs:List V3}
def MeshV (As:List Ent) (r:List V3 × List V3) (v:Value) (Bs:List Ent):Prop:=∃ pv fv,v=.agg #[pv,fv]∧pv.oneCell'=true∧fv.oneCell'=true∧Bs=.ow cV3 31 pv r.1::.ow cV3 31 fv r.2::As
end Go.Proofs.YtgapnfaakdjpaaaGreatDoor
namespace Go.Proofs.YtgapnfaakdjpaaaGreatDoor
open Go Go.Sx
variable {w0:World} {As:List Ent} {pv fv:Value} {pts fcs:List V3}
def grownV (b off n cap k:Nat) (o:Option (Option Addr × Nat)):Value:=match o with
  | none=>.slice (some ⟨b,off,none⟩) (n+k) cap
  | some (q,cp)=>.slice q (n+k) cp
def grownE (b off cap:Nat) (xs:List V3) (k:Nat) (zs:List V3) (o:Option (Option Addr × Nat)) (R:List Ent):List Ent:=match o with
  | none=>.ow cV3 31 (.slice (some ⟨b,off,none⟩) (xs.length+k) cap) (xs++zs)::R
  | some (q,cp)=>.ow cV3 31 (.slice q (xs.length+k) cp) (xs++zs)::.ow cV3 31 (.slice (some ⟨b,off,none⟩) xs.length cap) xs::R
def BendR (As:List Ent) (what:Nat) (pts fcs:List V3) (v:Value) (Bs:List Ent):Prop:=∃ pv fv P F,v=.agg #[pv,fv]∧pv.oneCell'=true∧fv.oneCell'=true∧BendOk what pts fcs P F∧Bs=.ow cV3 31 pv P::.ow cV3 31 fv F::As
end Go.Proofs.YtgapnfaakdjpaaaGreatDoor
namespace Go.Proofs.YtgapnfaakdjpaaaGreatDoor
open Go Go.Sx
variable {w0:World} {As:List Ent}
end Go.Proofs.YtgapnfaakdjpaaaGreatDoor
namespace Go.Proofs.YtgapnfaakdjpaaaGreatDoor
open Go Go.Sx
variable {w0:World} {As:List Ent} {pv fv:Value} {pts fcs:List V3}
structure DraftA where
  kd:Int
  sz:Int
  a0:Int
  a1:Int
  a2:Int
  ov:Value
  off:List Int
  tn:Bool
def DraftA.ok (d:DraftA):Prop:=(0≤d.kd∧d.kd≤255)∧(0≤d.sz∧d.sz≤255)∧(-32768≤d.a0∧d.a0≤32767)∧(-32768≤d.a1∧d.a1≤32767)∧(-32768≤d.a2∧d.a2≤32767)∧(∀ x∈d.off,-128≤x∧x≤127)∧d.off.length≤9223372036854775807
def DraftA.cells (d:DraftA):List Value:=[.int .u8 d.kd,.int .u8 d.sz,.int .i16 d.a0,.int .i16 d.a1,.int .i16 d.a2,d.ov,.bool d.tn]
def DraftA.mesh (d:DraftA):List V3 × List V3:=draftM (d.kd % 4).toNat (1000+100 * d.sz) ⟨d.a0,d.a1,d.a2⟩ d.off d.tn
structure BendA where
  wh:Int
  ta:Int
  to_:Int
  n:Int
def BendA.ok (b:BendA):Prop:=(0≤b.wh∧b.wh≤255)∧(0≤b.ta∧b.ta≤255)∧(0≤b.to_∧b.to_≤255)
def MeshesR (As:List Ent) (d:DraftA) (pts fcs:List V3) (v:Value) (Bs:List Ent):Prop:=∃ p0 f0 p1 f1 p2 f2 p3 f3,∃ P1 F1 P2 F2:List V3,v=.agg #[p0,f0,p1,f1,p2,f2,p3,f3] ∧
  p0.oneCell'=true∧f0.oneCell'=true∧p1.oneCell'=true∧f1.oneCell'=true∧p2.oneCell'=true∧f2.oneCell'=true∧p3.oneCell'=true∧f3.oneCell'=true ∧
  P1.length≤80∧F1.length≤80∧P2.length≤80∧F2.length≤80 ∧
  Bs=.ow cV3 31 p0 d.mesh.1::.ow cV3 31 f0 d.mesh.2::.ow cV3 31 p1 P1::.ow cV3 31 f1 F1::.ow cV3 31 p2 P2::.ow cV3 31 f2 F2::.ft (rd cV3 p3 (pts.take (min pts.length 30)))::.ft (rd cV3 f3 (fcs.take (min fcs.length 30)))::As
end Go.Proofs.YtgapnfaakdjpaaaGreatDoor
