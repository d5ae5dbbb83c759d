/- From a walk to a law's row: an argument that is not written reads as it read before. -/
import Derived.Test.YtciadfpomkdlnaaGreatDoorSx2
import Derived.Handed
import Derived.LaidLaws
import Derived.ReadAgain
import Derived.ProofKit
import Derived.OpenShut
import Derived.MakeChecks
import Derived.ChangeOld
import Derived.ChangeCalls
import Derived.Lib.LaidTab
import Derived.Lib.LaidU8
import Derived.Lay
import Derived.Test.YtciadfpomkdlnaaGreatDoorSx9
set_option maxHeartbeats 1000000
namespace Go.Sx
open Go Go.ChangeShapes Go.WideShapes Go.ChangeAt Go.RowKit
variable {H:Type} {enc:TypeId × Value→H} {P:Program} {w w' w0:World} {As:List Ent}
theorem Zsm (w:World):St w w [] :=
 ⟨fun b=>w.heap[b]?,[],⟨Nat.le_refl _,rfl,rfl,rfl,fun _ _ h=>h,fun _ _=>rfl,by simp [Sat],List.nodup_nil,fun _ h=>by cases h⟩⟩
theorem St.kept (h:St w0 w As) {b:Nat} (hb:b < w0.heap.size):w.heap[b]?=w0.heap[b]?:=by
 obtain ⟨H,bs,h⟩:=h
 have e:w0.heap[b]?=some w0.heap[b]:=Array.getElem?_eq_getElem hb
 rw [e]
 exact h.fz b _ ((h.old b hb).trans e)
theorem St.keptBut (h:St w0 w As) (m:MemPlace→Prop):w0.keptBut w m:=by
 have hk:∀ i:Nat,i < w0.heap.size→w.heap[i]?=w0.heap[i]?:=fun i hi=>h.kept hi
 obtain ⟨H,bs,h⟩:=h
 refine ⟨h.os,h.output,fun i hi=>?_⟩
 rw [hk i hi,Array.getElem?_eq_getElem hi]
 cases w0.heap[i]<;>simp
theorem St.sameAt (h:St w0 w As) (p:MemPlace) (hp:p.block < w0.heap.size):w0.sameAt w p:=by
 cases p with
 | cell b off =>
  have:=h.kept (b:=b) hp
  simp only [World.sameAt,World.cell?,this]
 | map b=>exact h.kept hp
theorem Zek {base:Nat} {sp:Nat→Bool} {held:Bool}:∀ {ts:List TypeId} {vs:List Value} {ds:List (DataW H)} {ps:List MemPlace},DataW.TrodAll enc P w base sp held ts vs ds ps→(∀ p∈ps,w.sameAt w' p)→DataW.TrodAll enc P w' base sp held ts vs ds ps
 | [],[],[],_,h,_=>h
 | _::_,_::_,_::_,_,⟨p,q,⟨n,hn⟩,hs,e⟩,k=>⟨p,q,⟨n,DataW.trod_carry n _ _ _ hn (fun x hx=>k x (by rw [e];exact List.mem_append_left _ hx))⟩,Zek hs (fun x hx=>k x (by rw [e];exact List.mem_append_right _ hx)),e⟩
end Go.Sx
namespace Go.Sx
open Go Go.ChangeShapes Go.WideShapes Go.ChangeAt Go.RowKit
variable {H:Type} {enc:TypeId × Value→H} {P:Program} {w:World} {base:Nat} {spare:Nat→Bool} {held:Bool}
end Go.Sx
namespace Go.Sx
open Go Go.ChangeShapes Go.WideShapes Go.ChangeAt Go.RowKit
variable {H:Type} {enc:TypeId × Value→H} {P:Program} {w w0:World} {base:Nat} {spare:Nat→Bool} {held:Bool} {As:List Ent}
theorem St.oldFact {f:PF} (h:St w0 w As) (hf:f.p fun b=>w0.heap[b]?):St w0 w (.ft f::As):=by
 obtain ⟨G,bs,g⟩:=h
 refine ⟨G,bs,g.size,g.os,g.tape,g.output,g.fz,g.old,⟨f.mono _ _ (fun b o hb=>?_) hf,g.sat⟩,g.nd,g.ap⟩
 rw [g.old b (Array.getElem?_eq_some_iff.1 hb).1];exact hb
theorem CallsS.oldFact {f:FuncId} {args:List Value} {K:Value→List Ent→Prop} (f':PF) (hf:f'.p fun b=>w0.heap[b]?) (h:CallsS P w0 f args (.ft f'::As) K):CallsS P w0 f args As K :=
 CallsS.mk fun w hs=>h.out w (hs.oldFact hf)
end Go.Sx
